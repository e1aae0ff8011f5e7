import PyProof.Rows.All
import Wide.All
import OpenK.AllK
import Wide.FinOn
import KE.KStateDown
import Lean
import HandS.ForMost
import HandS.Defaults
import HandS.AnyAll
import HandS.EndTab
import HandS.Head0
import HandS.Head1
import HandS.Head2
import HandS.Head3
import HandS.HeadEnd
import HandS.HeadHook1
import HandS.HeadHook2
import HandS.HeadHook3
import HandS.HeadHook4
import HandS.HeadWalk
import PySem.Challenge.RW_firstthere_k31_whole_shapes
import PyProof.TableCode
import HandS.Flow
import HandS.IsInst
import HandS.Deep
import HandS.Star
import HandS.TupAny
import HandS.Style
import HandS.Conv
import HandS.Wide
import HandS.Gcd
import HandS.SetFor
import HandS.DictComp
import HandS.Zip
import KE.KDictKeyed
import KE.KeyNested
import KE.DataMinMax
import KE.DataFind
import HandS.GenOver
import PyProof.GenCompD
import PyProof.SumAny
import HandS.Iter
import KE.GoesMore
import KE.GoesEnum
import KE.KDictDisplayH
import KE.DatumOrd
section
set_option Elab.async false
set_option linter.all false
set_option maxRecDepth 100000
set_option maxHeartbeats 0
/-! the head of the row: what the top leaves, by names -/
namespace FH
open PySem PySem.Spec PyProof.Rows L2
def topS (i : Nat) : Stmt := PySem.Challenge.pw_firstthere_k31_whole_shapes.main.body.getD i (.Pass ⟨0, 0, 0, 0⟩)
abbrev s_is_in : Stmt := topS 9
abbrev s_are_deputies : Stmt := topS 10
abbrev s_need_deputies : Stmt := topS 11
abbrev s_need_person : Stmt := topS 12
abbrev s_chain_of : Stmt := topS 13
abbrev s_holder_of : Stmt := topS 14
abbrev s_all_holders : Stmt := topS 15
abbrev s_is_order : Stmt := topS 17
abbrev s_stages : Stmt := topS 18
abbrev s_handings_of : Stmt := topS 19
abbrev s_is_told : Stmt := topS 21
abbrev s_need_told : Stmt := topS 22
abbrev s_begins : Stmt := topS 23
abbrev s_goes_on : Stmt := topS 24
abbrev s_ratio : Stmt := topS 26
abbrev s_plus : Stmt := topS 27
abbrev s_by : Stmt := topS 28
abbrev s_are_weights : Stmt := topS 31
abbrev s_need_weighted : Stmt := topS 32
abbrev s_left_weight : Stmt := topS 33
abbrev s_handed : Stmt := topS 35
abbrev s_most_row : Stmt := topS 36
abbrev s_most_handings : Stmt := topS 37
abbrev s_shows_most_handings : Stmt := topS 38
abbrev s_all_orders : Stmt := topS 39
abbrev s_with_names : Stmt := topS 40
abbrev s_shape_of : Stmt := topS 41
abbrev s_shape : Stmt := topS 42
abbrev s_alike : Stmt := topS 43
abbrev s_own_names : Stmt := topS 44
abbrev s_told_chance : Stmt := topS 45
abbrev s_handing_chances_by : Stmt := topS 46
abbrev s__law_taken : Stmt := topS 48
abbrev s__law_pick : Stmt := topS 49
abbrev s__law_alike : Stmt := topS 50
abbrev s__law_ratio : Stmt := topS 51
abbrev s__law_plus : Stmt := topS 52
abbrev s__law_by : Stmt := topS 53
abbrev s__law_deputies : Stmt := topS 57
abbrev s__law_chain : Stmt := topS 59
abbrev s__law_holder : Stmt := topS 60
abbrev s__law_orders : Stmt := topS 63
abbrev s__law_order : Stmt := topS 64
abbrev s__law_handed : Stmt := topS 65
abbrev s_law : Stmt := topS 66
def d_is_in : He.DefD := ⟨("is_in", none), "is_in", "is_in", defArgs s_is_in, defBody s_is_in, defScope s_is_in, [], []⟩
def d_are_deputies : He.DefD := ⟨("are_deputies", none), "are_deputies", "are_deputies", defArgs s_are_deputies, defBody s_are_deputies, defScope s_are_deputies, [], []⟩
def d_need_deputies : He.DefD := ⟨("need_deputies", none), "need_deputies", "need_deputies", defArgs s_need_deputies, defBody s_need_deputies, defScope s_need_deputies, [], []⟩
def d_need_person : He.DefD := ⟨("need_person", none), "need_person", "need_person", defArgs s_need_person, defBody s_need_person, defScope s_need_person, [], []⟩
def d_chain_of : He.DefD := ⟨("chain_of", none), "chain_of", "chain_of", defArgs s_chain_of, defBody s_chain_of, defScope s_chain_of, [], []⟩
def d_holder_of : He.DefD := ⟨("holder_of", none), "holder_of", "holder_of", defArgs s_holder_of, defBody s_holder_of, defScope s_holder_of, [], []⟩
def d_all_holders : He.DefD := ⟨("all_holders", none), "all_holders", "all_holders", defArgs s_all_holders, defBody s_all_holders, defScope s_all_holders, [], []⟩
def d_is_order : He.DefD := ⟨("is_order", none), "is_order", "is_order", defArgs s_is_order, defBody s_is_order, defScope s_is_order, [], []⟩
def d_stages : He.DefD := ⟨("stages", none), "stages", "stages", defArgs s_stages, defBody s_stages, defScope s_stages, [], []⟩
def d_handings_of : He.DefD := ⟨("handings_of", none), "handings_of", "handings_of", defArgs s_handings_of, defBody s_handings_of, defScope s_handings_of, [], []⟩
def d_is_told : He.DefD := ⟨("is_told", none), "is_told", "is_told", defArgs s_is_told, defBody s_is_told, defScope s_is_told, [], []⟩
def d_need_told : He.DefD := ⟨("need_told", none), "need_told", "need_told", defArgs s_need_told, defBody s_need_told, defScope s_need_told, [], []⟩
def d_begins : He.DefD := ⟨("begins", none), "begins", "begins", defArgs s_begins, defBody s_begins, defScope s_begins, [], []⟩
def d_goes_on : He.DefD := ⟨("goes_on", none), "goes_on", "goes_on", defArgs s_goes_on, defBody s_goes_on, defScope s_goes_on, [], []⟩
def d_ratio : He.DefD := ⟨("ratio", none), "ratio", "ratio", defArgs s_ratio, defBody s_ratio, defScope s_ratio, [], []⟩
def d_plus : He.DefD := ⟨("plus", none), "plus", "plus", defArgs s_plus, defBody s_plus, defScope s_plus, [], []⟩
def d_by : He.DefD := ⟨("by", none), "by", "by", defArgs s_by, defBody s_by, defScope s_by, [], []⟩
def d_are_weights : He.DefD := ⟨("are_weights", none), "are_weights", "are_weights", defArgs s_are_weights, defBody s_are_weights, defScope s_are_weights, [], []⟩
def d_need_weighted : He.DefD := ⟨("need_weighted", none), "need_weighted", "need_weighted", defArgs s_need_weighted, defBody s_need_weighted, defScope s_need_weighted, [], []⟩
def d_left_weight : He.DefD := ⟨("left_weight", none), "left_weight", "left_weight", defArgs s_left_weight, defBody s_left_weight, defScope s_left_weight, [], []⟩
def d_handed : He.DefD := ⟨("handed", none), "handed", "handed", defArgs s_handed, defBody s_handed, defScope s_handed, [], []⟩
def d_most_row : He.DefD := ⟨("most_row", none), "most_row", "most_row", defArgs s_most_row, defBody s_most_row, defScope s_most_row, [], []⟩
def d_most_handings : He.DefD := ⟨("most_handings", none), "most_handings", "most_handings", defArgs s_most_handings, defBody s_most_handings, defScope s_most_handings, [], []⟩
def d_shows_most_handings : He.DefD := ⟨("shows_most_handings", none), "shows_most_handings", "shows_most_handings", defArgs s_shows_most_handings, defBody s_shows_most_handings, defScope s_shows_most_handings, [], []⟩
def d_all_orders : He.DefD := ⟨("all_orders", none), "all_orders", "all_orders", defArgs s_all_orders, defBody s_all_orders, defScope s_all_orders, [], []⟩
def d_with_names : He.DefD := ⟨("with_names", none), "with_names", "with_names", defArgs s_with_names, defBody s_with_names, defScope s_with_names, [], []⟩
def d_shape_of : He.DefD := ⟨("shape_of", none), "shape_of", "shape_of", defArgs s_shape_of, defBody s_shape_of, defScope s_shape_of, [], []⟩
def d_shape : He.DefD := ⟨("shape", none), "shape", "shape", defArgs s_shape, defBody s_shape, defScope s_shape, [], []⟩
def d_alike : He.DefD := ⟨("alike", none), "alike", "alike", defArgs s_alike, defBody s_alike, defScope s_alike, [], []⟩
def d_own_names : He.DefD := ⟨("own_names", none), "own_names", "own_names", defArgs s_own_names, defBody s_own_names, defScope s_own_names, [], []⟩
def d_told_chance : He.DefD := ⟨("told_chance", none), "told_chance", "told_chance", defArgs s_told_chance, defBody s_told_chance, defScope s_told_chance, [], []⟩
def d_handing_chances_by : He.DefD := ⟨("handing_chances_by", none), "handing_chances_by", "handing_chances_by", defArgs s_handing_chances_by, defBody s_handing_chances_by, defScope s_handing_chances_by, [], []⟩
def d__law_taken : He.DefD := ⟨("_law_taken", none), "_law_taken", "_law_taken", defArgs s__law_taken, defBody s__law_taken, defScope s__law_taken, [], []⟩
def d__law_pick : He.DefD := ⟨("_law_pick", none), "_law_pick", "_law_pick", defArgs s__law_pick, defBody s__law_pick, defScope s__law_pick, [], []⟩
def d__law_alike : He.DefD := ⟨("_law_alike", none), "_law_alike", "_law_alike", defArgs s__law_alike, defBody s__law_alike, defScope s__law_alike, [], []⟩
def d__law_ratio : He.DefD := ⟨("_law_ratio", none), "_law_ratio", "_law_ratio", defArgs s__law_ratio, defBody s__law_ratio, defScope s__law_ratio, [], []⟩
def d__law_plus : He.DefD := ⟨("_law_plus", none), "_law_plus", "_law_plus", defArgs s__law_plus, defBody s__law_plus, defScope s__law_plus, [], []⟩
def d__law_by : He.DefD := ⟨("_law_by", none), "_law_by", "_law_by", defArgs s__law_by, defBody s__law_by, defScope s__law_by, [], []⟩
def d__law_deputies : He.DefD := ⟨("_law_deputies", none), "_law_deputies", "_law_deputies", defArgs s__law_deputies, defBody s__law_deputies, defScope s__law_deputies, [], []⟩
def d__law_chain : He.DefD := ⟨("_law_chain", none), "_law_chain", "_law_chain", defArgs s__law_chain, defBody s__law_chain, defScope s__law_chain, [], []⟩
def d__law_holder : He.DefD := ⟨("_law_holder", none), "_law_holder", "_law_holder", defArgs s__law_holder, defBody s__law_holder, defScope s__law_holder, [], []⟩
def d__law_orders : He.DefD := ⟨("_law_orders", none), "_law_orders", "_law_orders", defArgs s__law_orders, defBody s__law_orders, defScope s__law_orders, [], []⟩
def d__law_order : He.DefD := ⟨("_law_order", none), "_law_order", "_law_order", defArgs s__law_order, defBody s__law_order, defScope s__law_order, [], []⟩
def d__law_handed : He.DefD := ⟨("_law_handed", none), "_law_handed", "_law_handed", defArgs s__law_handed, defBody s__law_handed, defScope s__law_handed, [], []⟩
def d_law : He.DefD := ⟨("law", none), "law", "law", defArgs s_law, defBody s_law, defScope s_law, [], []⟩
def fn : List He.DefD := [d_is_in, d_are_deputies, d_need_deputies, d_need_person, d_chain_of, d_holder_of, d_all_holders, d_is_order, d_stages, d_handings_of, d_is_told, d_need_told, d_begins, d_goes_on, d_ratio, d_plus, d_by, d_are_weights, d_need_weighted, d_left_weight, d_handed, d_most_row, d_most_handings, d_shows_most_handings, d_all_orders, d_with_names, d_shape_of, d_shape, d_alike, d_own_names, d_told_chance, d_handing_chances_by, d__law_taken, d__law_pick, d__law_alike, d__law_ratio, d__law_plus, d__law_by, d__law_deputies, d__law_chain, d__law_holder, d__law_orders, d__law_order, d__law_handed, d_law]
def fa : List He.Fa := [.glo "is_in", .glo "are_deputies", .glo "need_deputies", .glo "need_person", .glo "chain_of", .glo "holder_of", .glo "all_holders", .glo "is_order", .glo "stages", .glo "handings_of", .glo "is_told", .glo "need_told", .glo "begins", .glo "goes_on", .glo "ratio", .glo "plus", .glo "by", .glo "are_weights", .glo "need_weighted", .glo "left_weight", .glo "handed", .glo "most_row", .glo "most_handings", .glo "shows_most_handings", .glo "all_orders", .glo "with_names", .glo "shape_of", .glo "shape", .glo "alike", .glo "own_names", .glo "told_chance", .glo "handing_chances_by", .glo "_law_taken", .glo "_law_pick", .glo "_law_alike", .glo "_law_ratio", .glo "_law_plus", .glo "_law_by", .glo "_law_deputies", .glo "_law_chain", .glo "_law_holder", .glo "_law_orders", .glo "_law_order", .glo "_law_handed", .glo "law", .free "isinstance", .free "len", .free "all", .free "any", .free "sum", .free "tuple", .free "list", .free "sorted", .free "range", .free "enumerate", .free "zip", .free "min", .free "max", .free "abs", .free "int", .free "bool", .free "str", .int "MOST_PEOPLE" 6, .int "MOST_WEIGHT" 60]
def tf : List He.Defn := [("are_deputies", none), ("is_order", none), ("is_told", none), ("begins", none), ("are_weights", none), ("left_weight", none), ("handed", none), ("told_chance", none)]
def ex (K : PySem.W.Frag) : Bool := decide (PySem.W.nsIn K mainGlobals "gcd" = some (some (.builtin "math.gcd")))
abbrev R : PySem.W.OpenRow := PySem.W.OpenLaw.row PySem.Challenge.rw_firstthere_k31_whole_shapes
abbrev hk : PySem.W.Hook := He.hookX 4 fa fn [] tf ex
def ob (s : PySem.W.SharedT) : He.AlX := He.obsX 4 fa fn [] tf ex (HandSHeadRun.getT s)
theorem ob_eq (s : PySem.W.SharedT) : ob s = hk.obs s.abs := He.obsX_eq (HandSHeadRun.getT_eq s)
def names1 : List PySem.Str := ["DutyError", "BadDeputies", "BadPerson", "BadTold", "BadWeights", "MOST_PEOPLE", "is_in", "are_deputies", "need_deputies", "need_person", "chain_of", "holder_of", "all_holders", "is_order", "stages", "handings_of", "is_told", "need_told", "begins", "goes_on", "ratio", "plus", "by", "MOST_WEIGHT", "are_weights", "need_weighted", "left_weight", "handed", "most_row", "most_handings"]
def names2 : List PySem.Str := ["shows_most_handings", "all_orders", "with_names", "shape_of", "shape", "alike", "own_names", "told_chance", "handing_chances_by", "_law_taken", "_law_pick", "_law_alike", "_law_ratio", "_law_plus", "_law_by", "_law_sum", "_law_less", "_law_is_ratio", "_law_deputies", "_law_lot", "_law_chain", "_law_holder", "_law_holders", "_law_lots", "_law_orders", "_law_order", "_law_handed"]
def names : List PySem.Str := names1 ++ names2
abbrev qv : Program := PySem.W.view R.prog [0, 66]
theorem run (w : World) : HandSHeadRun.RunEqI R qv hk ob 3000 names w := by
  unfold HandSHeadRun.RunEqI
  kernel_rfl
end FH
end
section
/-! PL: data as Python has it, without a heap; the pieces of the program as functions on data. Plain Lean, no kit. -/
set_option autoImplicit false
namespace PL

inductive D where
  | non
  | bl (b : Bool)
  | int (i : Int)
  | tup (ds : List D)
  | lst (ds : List D)
  /-- a dict whose keys are ints; one whose keys are (nested) tuples of ints -/
  | dki (kvs : List (Int × D))
  | dkt (kvs : List (D × D))
  /-- the list that the law's draws keep -/
  | row
  deriving Inhabited

/-- what the draws keep: the script, the place, the seed, the rest of a great cell -/
structure Row where
  cells : List Int
  pos : Nat
  seed : Int
  rest : Int

abbrev Sl := List (Option D)
abbrev Ex := Sl → Row → Option (D × Row)
abbrev Ar := Sl → Row → Option (List D × Row)
abbrev Te := Sl → Row → Option (Bool × Row)
abbrev Fn := List D → Row → Option (D × Row)
abbrev Tg := D → Sl → Option Sl
inductive Out where
  | nx (s : Sl) (r : Row)
  | rt (d : D) (r : Row)
abbrev Sm := Sl → Row → Option Out

/-! ### equality -/
mutual
def D.beq : D → D → Bool
  | .non, .non => true
  | .bl a, .bl b => a == b
  | .bl a, .int b => (if a then 1 else 0) == b
  | .int a, .bl b => a == (if b then 1 else 0)
  | .int a, .int b => a == b
  | .tup a, .tup b => D.beqs a b
  | .lst a, .lst b => D.beqs a b
  | _, _ => false
def D.beqs : List D → List D → Bool
  | [], [] => true
  | a :: as, b :: bs => D.beq a b && D.beqs as bs
  | _, _ => false
end
/-- None, bools, ints, tuples and lists of such, nested to depth n -/
def D.ok : Nat → D → Bool
  | _, .non => true
  | _, .bl _ => true
  | _, .int _ => true
  | n + 1, .tup ds => ds.all (D.ok n)
  | n + 1, .lst ds => ds.all (D.ok n)
  | _, _ => false
/-- ints, and tuples of such nested to depth n -/
def D.keyOk : Nat → D → Bool
  | _, .int _ => true
  | n + 1, .tup ds => ds.all (D.keyOk n)
  | _, _ => false
/-- a key: a tuple -/
def D.keyT : D → Bool
  | .tup ds => D.keyOk 3 (.tup ds)
  | _ => false
def D.flat : D → Bool
  | .non => true
  | .bl _ => true
  | .int _ => true
  | _ => false

/-! ### operators on data -/
def oAdd : D → D → Option D
  | .int a, .int b => some (.int (a + b))
  | _, _ => none
def oSub : D → D → Option D
  | .int a, .int b => some (.int (a - b))
  | _, _ => none
def wideN : Nat := 2 ^ 4000
/-- of ints below 2^4000 -/
def oMul : D → D → Option D
  | .int a, .int b => if a.natAbs < wideN ∧ b.natAbs < wideN then some (.int (a * b)) else none
  | _, _ => none
/-- by a positive int below 2^4000 -/
def oDivW : D → D → Option D
  | .int a, .int b => if 0 < b ∧ b.natAbs < wideN then some (.int (a / b)) else none
  | _, _ => none
/-- any modulus but 0, the rest of the modulus' sign -/
def oMod : D → D → Option D
  | .int a, .int b => if b = 0 then none else some (.int (a.fmod b))
  | _, _ => none
def oPow : D → D → Option D
  | .int a, .int b => if 0 ≤ b ∧ b ≤ 1000 ∧ a.natAbs < 1000 then some (.int (a ^ b.toNat)) else none
  | _, _ => none
def oCatT : D → D → Option D
  | .tup a, .tup b => if a.length + b.length ≤ 1000 then some (.tup (a ++ b)) else none
  | _, _ => none
def oCatL : D → D → Option D
  | .lst a, .lst b => if a.length + b.length ≤ 1000 then some (.lst (a ++ b)) else none
  | _, _ => none
def oRepL : D → D → Option D
  | .lst a, .int k => if 0 ≤ k ∧ k ≤ 1000 ∧ a.length = 1 then some (.lst (List.replicate k.toNat a).flatten) else none
  | _, _ => none
def oLt : D → D → Option D
  | .int a, .int b => some (.bl (decide (a < b)))
  | _, _ => none
def oLe : D → D → Option D
  | .int a, .int b => some (.bl (decide (a ≤ b)))
  | _, _ => none
def oGt : D → D → Option D
  | .int a, .int b => some (.bl (decide (b < a)))
  | _, _ => none
def oGe : D → D → Option D
  | .int a, .int b => some (.bl (decide (b ≤ a)))
  | _, _ => none
def oEq (a b : D) : Option D := if a.ok 8 && b.ok 8 then some (.bl (a.beq b)) else none
def oNe (a b : D) : Option D := if a.ok 8 && b.ok 8 then some (.bl (!a.beq b)) else none
/-- x in a list or a tuple, of flat things -/
def oIn : D → D → Option D
  | x, .lst ds => if x.flat && ds.all D.flat then some (.bl (ds.any fun y => y.beq x)) else none
  | x, .tup ds => if x.flat && ds.all D.flat then some (.bl (ds.any fun y => y.beq x)) else none
  | _, _ => none
def oNotIn : D → D → Option D
  | x, .lst ds => if x.flat && ds.all D.flat then some (.bl (!ds.any fun y => y.beq x)) else none
  | x, .tup ds => if x.flat && ds.all D.flat then some (.bl (!ds.any fun y => y.beq x)) else none
  | _, _ => none
/-- x in a list of any data -/
def oInD : D → D → Option D
  | x, .lst ds => if x.ok 7 && ds.all (D.ok 7) then some (.bl (ds.any fun y => y.beq x)) else none
  | _, _ => none
def oNotInD : D → D → Option D
  | x, .lst ds => if x.ok 7 && ds.all (D.ok 7) then some (.bl (!ds.any fun y => y.beq x)) else none
  | _, _ => none
/-- the place of an index, of any sign -/
def ixOf (n : Nat) (i : Int) : Option Nat := if 0 ≤ i then (if i < n then some i.toNat else none) else if -(n : Int) ≤ i then some (i + n).toNat else none
def oIx : D → D → Option D
  | .lst ds, .int i => (match ixOf ds.length i with | some j => ds[j]? | none => none)
  | .tup ds, .int i => (match ixOf ds.length i with | some j => ds[j]? | none => none)
  | _, _ => none
/-- x[:k], 0 ≤ k; x[:-1]; x[k:], 0 ≤ k -/
def oTo : D → D → Option D
  | .lst ds, .int k => if 0 ≤ k then some (.lst (ds.take k.toNat)) else none
  | .tup ds, .int k => if 0 ≤ k then some (.tup (ds.take k.toNat)) else if k = -1 then some (.tup (ds.take (ds.length - 1))) else none
  | _, _ => none
def oFrom : D → D → Option D
  | .lst ds, .int k => if 0 ≤ k then some (.lst (ds.drop k.toNat)) else none
  | _, _ => none

/-! ### dicts -/
def getI (kvs : List (Int × D)) (k : Int) : Option D := (kvs.find? fun p => p.1 == k).map (·.2)
def putI (l : List (Int × D)) (k : Int) (v : D) : List (Int × D) := if (l.any fun p => p.1 == k) = true then l.map (fun p => if (p.1 == k) = true then (p.1, v) else p) else l ++ [(k, v)]
def getD : List (D × D) → D → Option D
  | [], _ => none
  | p :: r, k => if p.1.beq k then some p.2 else getD r k
def putD : List (D × D) → D → D → List (D × D)
  | [], k, v => [(k, v)]
  | p :: r, k, v => if p.1.beq k then (p.1, v) :: r else p :: putD r k v
def oGet : D → D → Option D
  | .dkt kvs, k => if k.keyT then getD kvs k else none
  | _, _ => none
def oGetI : D → D → Option D
  | .dki kvs, .int k => getI kvs k
  | _, _ => none
def oNotInT : D → D → Option D
  | k, .dkt kvs => if k.keyT then some (.bl !(getD kvs k).isSome) else none
  | _, _ => none

/-! ### expressions -/
def eVar (i : Nat) : Ex := fun s r => match s[i]? with
  | some (some d) => some (d, r)
  | _ => none
def eC (d : D) : Ex := fun _ r => some (d, r)
def eUn (f : D → Option D) (a : Ex) : Ex := fun s r => match a s r with
  | none => none
  | some (x, r1) => match f x with
    | none => none
    | some y => some (y, r1)
def eBin (f : D → D → Option D) (a b : Ex) : Ex := fun s r => match a s r with
  | none => none
  | some (x, r1) => match b s r1 with
    | none => none
    | some (y, r2) => match f x y with
      | none => none
      | some z => some (z, r2)
/-- a < b < c -/
def eChain (f g : D → D → Option D) (a b c : Ex) : Ex := fun s r => match a s r with
  | none => none
  | some (x, r1) => match b s r1 with
    | none => none
    | some (y, r2) => match f x y with
      | some (.bl true) => (match c s r2 with
        | none => none
        | some (z, r3) => match g y z with
          | none => none
          | some w => some (w, r3))
      | some (.bl false) => some (.bl false, r2)
      | _ => none
def eAnd (a b : Ex) : Ex := fun s r => match a s r with
  | some (.bl true, r1) => b s r1
  | some (.bl false, r1) => some (.bl false, r1)
  | _ => none
def eOr (a b : Ex) : Ex := fun s r => match a s r with
  | some (.bl true, r1) => some (.bl true, r1)
  | some (.bl false, r1) => b s r1
  | _ => none
def eNot (a : Ex) : Ex := fun s r => match a s r with
  | some (.bl k, r1) => some (.bl (!k), r1)
  | _ => none
def eIf (t : Te) (a b : Ex) : Ex := fun s r => match t s r with
  | some (true, r1) => a s r1
  | some (false, r1) => b s r1
  | none => none
def isNon : D → Bool
  | .non => true
  | _ => false
def eIsN (a : Ex) : Ex := fun s r => match a s r with
  | some (x, r1) => some (.bl (isNon x), r1)
  | none => none
def eNotN (a : Ex) : Ex := fun s r => match a s r with
  | some (x, r1) => some (.bl (!isNon x), r1)
  | none => none

/-! ### tests -/
def tB (a : Ex) : Te := fun s r => match a s r with
  | some (.bl k, r1) => some (k, r1)
  | _ => none
/-- the truth of a tuple -/
def tTr (a : Ex) : Te := fun s r => match a s r with
  | some (.tup ds, r1) => some (!ds.isEmpty, r1)
  | _ => none
def tNot (t : Te) : Te := fun s r => match t s r with
  | some (k, r1) => some (!k, r1)
  | none => none
def tAnd (a b : Te) : Te := fun s r => match a s r with
  | some (true, r1) => b s r1
  | some (false, r1) => some (false, r1)
  | none => none
def tOr (a b : Te) : Te := fun s r => match a s r with
  | some (true, r1) => some (true, r1)
  | some (false, r1) => b s r1
  | none => none
def tYes : Te := fun _ r => some (true, r)

/-! ### lists of expressions -/
def aNil : Ar := fun _ r => some ([], r)
def aCons (a : Ex) (as : Ar) : Ar := fun s r => match a s r with
  | none => none
  | some (x, r1) => match as s r1 with
    | none => none
    | some (xs, r2) => some (x :: xs, r2)
/-- *a, a tuple -/
def aStar (a : Ex) (as : Ar) : Ar := fun s r => match a s r with
  | some (.tup ys, r1) => (match as s r1 with
    | none => none
    | some (xs, r2) => some (ys ++ xs, r2))
  | _ => none
def eTup (as : Ar) : Ex := fun s r => match as s r with
  | some (xs, r1) => if xs.length ≤ 1000 then some (.tup xs, r1) else none
  | none => none
def eLst (as : Ar) : Ex := fun s r => match as s r with
  | some (xs, r1) => if xs.length ≤ 1000 then some (.lst xs, r1) else none
  | none => none
def eCall (f : Fn) (as : Ar) : Ex := fun s r => match as s r with
  | some (xs, r1) => f xs r1
  | none => none

/-! ### built-in functions -/
inductive Ty where
  | tInt | tBool | tTup | tLst | tStr
def isTy : Ty → D → Option Bool
  | .tInt, .int _ => some true
  | .tInt, .bl _ => some true
  | .tBool, .bl _ => some true
  | .tTup, .tup _ => some true
  | .tLst, .lst _ => some true
  | _, .dki _ => none
  | _, .dkt _ => none
  | _, .row => none
  | _, _ => some false
def fIs (t : Ty) : Fn
  | [x], r => (match isTy t x with
    | some b => some (.bl b, r)
    | none => none)
  | _, _ => none
/-- isinstance(x, (tuple, list)) -/
def fIsTL : Fn
  | [x], r => (match isTy .tTup x, isTy .tLst x with
    | some a, some b => some (.bl (a || b), r)
    | _, _ => none)
  | _, _ => none
def oLen : D → Option D
  | .tup ds => some (.int ds.length)
  | .lst ds => some (.int ds.length)
  | .dki kvs => some (.int kvs.length)
  | _ => none
def oTuple : D → Option D
  | .tup ds => some (.tup ds)
  | .lst ds => some (.tup ds)
  | _ => none
def oList : D → Option D
  | .tup ds => some (.lst ds)
  | .lst ds => some (.lst ds)
  | _ => none
def rng (a b : Int) : List D := (List.range (b - a).toNat).map fun i => .int (a + (i : Nat))
def oListRg : D → Option D
  | .int n => if 0 ≤ n ∧ n ≤ 1000 then some (.lst (rng 0 n)) else none
  | _ => none
def oTupRg : D → Option D
  | .int n => if 0 ≤ n ∧ n ≤ 1000 then some (.tup (rng 0 n)) else none
  | _ => none
def asInt : D → Option Int
  | .int i => some i
  | _ => none
def asInts : List D → Option (List Int)
  | [] => some []
  | .int i :: r => (match asInts r with
    | some is => some (i :: is)
    | none => none)
  | _ :: _ => none
def insI (x : Int) : List Int → List Int
  | [] => [x]
  | y :: ys => if x ≤ y then x :: y :: ys else y :: insI x ys
def isort : List Int → List Int
  | [] => []
  | x :: xs => insI x (isort xs)
def oSorted : D → Option D
  | .lst ds => (match asInts ds with
    | some is => if is.length < 64 then some (.lst ((isort is).map .int)) else none
    | none => none)
  | _ => none
def oSum : D → Option D
  | .lst ds => (match asInts ds with
    | some is => some (.int is.sum)
    | none => none)
  | .tup ds => (match asInts ds with
    | some is => some (.int is.sum)
    | none => none)
  | _ => none
def maxI : Int → List Int → Int
  | m, [] => m
  | m, x :: xs => maxI (if m < x then x else m) xs
def oMax : D → Option D
  | .lst ds => (match asInts ds with
    | some (x :: xs) => some (.int (maxI x xs))
    | _ => none)
  | _ => none
def ltI : List Int → List Int → Bool
  | _, [] => false
  | [], _ :: _ => true
  | x :: xs, y :: ys => if x < y then true else if x = y then ltI xs ys else false
def minT : List Int → List (List Int) → List Int
  | m, [] => m
  | m, x :: xs => minT (if ltI x m then x else m) xs
def asIntss : List D → Option (List (List Int))
  | [] => some []
  | .tup ds :: r => (match asInts ds, asIntss r with
    | some is, some iss => some (is :: iss)
    | _, _ => none)
  | _ :: _ => none
/-- min of a list of tuples of ints -/
def oMinT : D → Option D
  | .lst ds => (match asIntss ds with
    | some (x :: xs) => some (.tup ((minT x xs).map .int))
    | _ => none)
  | _ => none
def oAbs : D → Option D
  | .int i => some (.int (if i < 0 then -i else i))
  | _ => none
def oInt : D → Option D
  | .int i => some (.int i)
  | .bl b => some (.int (if b then 1 else 0))
  | _ => none
def oNeg : D → Option D
  | .int i => some (.int (-i))
  | _ => none
def oGcd : D → D → Option D
  | .int a, .int b => some (.int ((Nat.gcd a.natAbs b.natAbs : Nat) : Int))
  | _, _ => none
/-- list.count, list.index -/
def oCount : D → D → Option D
  | .lst ds, x => if x.ok 7 && ds.all (D.ok 7) then some (.int ((ds.countP fun y => y.beq x : Nat) : Int)) else none
  | _, _ => none
def oIndex : D → D → Option D
  | .lst ds, x => if x.ok 7 && ds.all (D.ok 7) then (match ds.findIdx? fun y => y.beq x with
    | some j => some (.int (j : Nat))
    | none => none) else none
  | _, _ => none
/-- d.get(k, v) -/
def eGet3 (d k v : Ex) : Ex := fun s r => match d s r with
  | some (.dkt kvs, r1) => (match k s r1 with
    | none => none
    | some (x, r2) => match v s r2 with
      | none => none
      | some (y, r3) => if x.keyT then some ((getD kvs x).getD y, r3) else none)
  | _ => none
/-- {k: v}, k a tuple -/
def eDict1 (k v : Ex) : Ex := fun s r => match k s r with
  | none => none
  | some (x, r1) => match v s r1 with
    | none => none
    | some (y, r2) => if x.keyT then some (.dkt [(x, y)], r2) else none
def eDict0 : Ex := fun _ r => some (.dkt [], r)
def eDictI : Ex := fun _ r => some (.dki [], r)

/-! ### targets -/
def gVar (i : Nat) : Tg := fun d s => some (s.set i (some d))
def gAll : List Tg → List D → Sl → Option Sl
  | [], [], s => some s
  | g :: gs, d :: ds, s => (match g d s with
    | some s1 => gAll gs ds s1
    | none => none)
  | _, _, _ => none
def gTup (gs : List Tg) : Tg := fun d s => match d with
  | .tup ds => gAll gs ds s
  | _ => none

/-! ### what is walked -/
def wSeq (a : Ex) : Ar := fun s r => match a s r with
  | some (.lst ds, r1) => some (ds, r1)
  | some (.tup ds, r1) => some (ds, r1)
  | _ => none
def wKeys (a : Ex) : Ar := fun s r => match a s r with
  | some (.dkt kvs, r1) => some (kvs.map (·.1), r1)
  | _ => none
def wRange (a : Ex) : Ar := fun s r => match a s r with
  | some (.int n, r1) => if n ≤ 1000 ∧ -1000 ≤ n then some (rng 0 n, r1) else none
  | _ => none
def wEnum (a : Ex) : Ar := fun s r => match a s r with
  | some (.tup ds, r1) => some ((List.range ds.length).zipWith (fun i d => .tup [.int (i : Nat), d]) ds, r1)
  | _ => none
def wZip (a b : Ex) : Ar := fun s r => match a s r with
  | some (.tup ds, r1) => (match b s r1 with
    | some (.tup es, r2) => some (ds.zipWith (fun d e => .tup [d, e]) es, r2)
    | _ => none)
  | _ => none

/-! ### comprehensions and generator expressions -/
def wipe (s : Sl) : List Nat → Sl
  | [] => s
  | v :: vs => (wipe s vs).set v none
/-- the items of [e for tg in .. if t] -/
def compL (tg : Tg) (t : Te) (e : Ex) (s : Sl) : List D → Row → Option (List D × Row)
  | [], r => some ([], r)
  | d :: ds, r => match tg d s with
    | none => none
    | some s1 => match t s1 r with
      | none => none
      | some (false, r1) => compL tg t e s ds r1
      | some (true, r1) => match e s1 r1 with
        | none => none
        | some (x, r2) => match compL tg t e s ds r2 with
          | none => none
          | some (xs, r3) => some (x :: xs, r3)
def eComp (vs : List Nat) (w : Ar) (tg : Tg) (t : Te) (e : Ex) : Ex := fun s r => match w s r with
  | none => none
  | some (ds, r1) => if ds.length ≤ 1000 then (match compL tg t e (wipe s vs) ds r1 with
    | none => none
    | some (xs, r2) => some (.lst xs, r2)) else none
/-- {k: True for tg in ..}, k an int -/
def compI (tg : Tg) (k : Ex) (e : Ex) (s : Sl) : List D → List (Int × D) → Row → Option (List (Int × D) × Row)
  | [], acc, r => some (acc, r)
  | d :: ds, acc, r => match tg d s with
    | none => none
    | some s1 => match k s1 r with
      | some (.int i, r1) => (match e s1 r1 with
        | none => none
        | some (x, r2) => compI tg k e s ds (putI acc i x) r2)
      | _ => none
def eCompI (vs : List Nat) (w : Ar) (tg : Tg) (k e : Ex) : Ex := fun s r => match w s r with
  | none => none
  | some (ds, r1) => if ds.length ≤ 1000 then (match compI tg k e (wipe s vs) ds [] r1 with
    | none => none
    | some (xs, r2) => some (.dki xs, r2)) else none
/-- all(..), any(..): up to the first False, True -/
def genAll (tg : Tg) (t : Te) (e : Ex) (s : Sl) (stop : Bool) : List D → Row → Option (Bool × Row)
  | [], r => some (!stop, r)
  | d :: ds, r => match tg d s with
    | none => none
    | some s1 => match t s1 r with
      | none => none
      | some (false, r1) => genAll tg t e s stop ds r1
      | some (true, r1) => match e s1 r1 with
        | some (.bl b, r2) => if b = stop then some (stop, r2) else genAll tg t e s stop ds r2
        | _ => none
def eGen (stop : Bool) (vs : List Nat) (w : Ar) (tg : Tg) (t : Te) (e : Ex) : Ex := fun s r => match w s r with
  | none => none
  | some (ds, r1) => match genAll tg t e (wipe s vs) stop ds r1 with
    | none => none
    | some (b, r2) => some (.bl b, r2)
abbrev eAll := eGen false
abbrev eAny := eGen true
/-- sum(e for ..), ints below 2^62 -/
def genSum (tg : Tg) (t : Te) (e : Ex) (s : Sl) : List D → Int → Row → Option (Int × Row)
  | [], n, r => some (n, r)
  | d :: ds, n, r => match tg d s with
    | none => none
    | some s1 => match t s1 r with
      | none => none
      | some (false, r1) => genSum tg t e s ds n r1
      | some (true, r1) => match e s1 r1 with
        | some (.int i, r2) => if i.natAbs < 1000000 ∧ (n + i).natAbs < 1000000 then genSum tg t e s ds (n + i) r2 else none
        | _ => none
def eSum (vs : List Nat) (w : Ar) (tg : Tg) (t : Te) (e : Ex) : Ex := fun s r => match w s r with
  | none => none
  | some (ds, r1) => match genSum tg t e (wipe s vs) ds 0 r1 with
    | none => none
    | some (n, r2) => some (.int n, r2)

/-! ### statements -/
def sNil : Sm := fun s r => some (.nx s r)
def sSeq (a b : Sm) : Sm := fun s r => match a s r with
  | none => none
  | some (.nx s1 r1) => b s1 r1
  | some (.rt d r1) => some (.rt d r1)
def sSet (i : Nat) (e : Ex) : Sm := fun s r => match e s r with
  | none => none
  | some (d, r1) => some (.nx (s.set i (some d)) r1)
def sTgt (g : Tg) (e : Ex) : Sm := fun s r => match e s r with
  | none => none
  | some (d, r1) => match g d s with
    | none => none
    | some s1 => some (.nx s1 r1)
def setAll : List Nat → List D → Sl → Option Sl
  | [], [], s => some s
  | i :: is, d :: ds, s => setAll is ds (s.set i (some d))
  | _, _, _ => none
def sPar (is : List Nat) (as : Ar) : Sm := fun s r => match as s r with
  | none => none
  | some (ds, r1) => match setAll is ds s with
    | none => none
    | some s1 => some (.nx s1 r1)
def sEx (e : Ex) : Sm := fun s r => match e s r with
  | none => none
  | some (_, r1) => some (.nx s r1)
def sRet (e : Ex) : Sm := fun s r => match e s r with
  | none => none
  | some (d, r1) => some (.rt d r1)
def sIf (t : Te) (a b : Sm) : Sm := fun s r => match t s r with
  | none => none
  | some (true, r1) => a s r1
  | some (false, r1) => b s r1
def sNever : Sm := fun _ _ => none
/-- xs.append(e), xs in slot i -/
def sApp (i : Nat) (e : Ex) : Sm := fun s r => match s[i]? with
  | some (some (.lst ds)) => (match e s r with
    | none => none
    | some (d, r1) => if ds.length < 1000 then some (.nx (s.set i (some (.lst (ds ++ [d])))) r1) else none)
  | _ => none
/-- xs[k] = e, xs in slot i -/
def sSetIx (i : Nat) (k e : Ex) : Sm := fun s r => match e s r with
  | none => none
  | some (d, r1) => match k s r1 with
    | some (.int z, r2) => (match s[i]? with
      | some (some (.lst ds)) => (match ixOf ds.length z with
        | some j => some (.nx (s.set i (some (.lst (ds.set j d)))) r2)
        | none => none)
      | _ => none)
    | _ => none
/-- d[k] = e, d in slot i: keys that are tuples; that are ints -/
def sPut (i : Nat) (k e : Ex) : Sm := fun s r => match e s r with
  | none => none
  | some (d, r1) => match k s r1 with
    | none => none
    | some (x, r2) => match s[i]? with
      | some (some (.dkt kvs)) => if x.keyT ∧ kvs.length < 1000 then some (.nx (s.set i (some (.dkt (putD kvs x d)))) r2) else none
      | _ => none
def sPutI (i : Nat) (k e : Ex) : Sm := fun s r => match e s r with
  | none => none
  | some (d, r1) => match k s r1 with
    | some (.int z, r2) => (match s[i]? with
      | some (some (.dki kvs)) => if kvs.length < 1000 then some (.nx (s.set i (some (.dki (putI kvs z d)))) r2) else none
      | _ => none)
    | _ => none
def forL (g : Tg) (b : Sm) : List D → Sl → Row → Option Out
  | [], s, r => some (.nx s r)
  | d :: ds, s, r => match g d s with
    | none => none
    | some s1 => match b s1 r with
      | none => none
      | some (.nx s2 r2) => forL g b ds s2 r2
      | some (.rt v r2) => some (.rt v r2)
def sFor (g : Tg) (w : Ar) (b : Sm) : Sm := fun s r => match w s r with
  | none => none
  | some (ds, r1) => forL g b ds s r1
def whileL (t : Te) (b : Sm) : Nat → Sl → Row → Option Out
  | 0, _, _ => none
  | n + 1, s, r => match t s r with
    | none => none
    | some (false, r1) => some (.nx s r1)
    | some (true, r1) => match b s r1 with
      | none => none
      | some (.nx s2 r2) => whileL t b n s2 r2
      | some (.rt v r2) => some (.rt v r2)
/-- fuel: the int in slot i, or the length of the tuple there, and one -/
def fuelOf (s : Sl) (i : Nat) : Nat := match s[i]? with
  | some (some (.int z)) => z.natAbs + 2
  | some (some (.tup ds)) => ds.length + 2
  | _ => 0
def sWhile (i : Nat) (t : Te) (b : Sm) : Sm := fun s r => whileL t b (fuelOf s i) s r

/-! ### a def -/
def runFn (np n : Nat) (b : Sm) : Fn := fun ds r => if ds.length = np then (match b (ds.map some ++ List.replicate (n - np) none) r with
  | none => none
  | some (.nx _ r1) => some (.non, r1)
  | some (.rt d r1) => some (d, r1)) else none

/-! ### the draws -/
/-- _law_taken -/
def take (r : Row) (m : Int) : Int × Row :=
  if 0 < r.rest then (r.rest % m, { r with rest := r.rest / m })
  else if r.cells.length < r.pos + 1 then
    (((r.seed * 48271 + 11) % 2147483647) / 7 % m, { r with pos := r.pos + 1, seed := (r.seed * 48271 + 11) % 2147483647 })
  else
    let c := r.cells.getD r.pos 0
    (c % m, { r with pos := r.pos + 1, seed := (r.seed * 48271 + c + 11) % 2147483647, rest := if 10 ^ 18 ≤ c then c / m else r.rest })
def fTaken : Fn
  | [.row, .int m], r => if 0 < m ∧ m < 1000 then some (.int (take r m).1, (take r m).2) else none
  | _, _ => none
end PL
end
section
/-! printed by gen.py from the linked text: what each def does to data -/
set_option autoImplicit false
set_option maxRecDepth 10000
namespace PL
/- is_in: 0 value, 1 least, 2 most -/
def b_is_in : Sm := (sSeq (sRet (eAnd (eCall (fIs .tInt) (aCons (eVar 0) aNil)) (eAnd (eNot (eCall (fIs .tBool) (aCons (eVar 0) aNil))) (eChain oLe oLe (eVar 1) (eVar 0) (eVar 2))))) sNil)
def F_is_in : Fn := runFn 3 3 b_is_in
/- are_deputies: 0 value, 1 person, 2 one -/
def b_are_deputies : Sm := (sSeq (sIf (tOr (tNot (tB (eCall (fIs .tTup) (aCons (eVar 0) aNil)))) (tNot (tB (eChain oLe oLe (eC (.int 1)) (eUn oLen (eVar 0)) (eC (.int 6)))))) (sSeq (sRet (eC (.bl false))) sNil) sNil) (sSeq (sRet (eAll [1, 2] (wEnum (eVar 0)) (gTup [(gVar 1), (gVar 2)]) tYes (eAnd (eCall F_is_in (aCons (eVar 2) (aCons (eUn oNeg (eC (.int 1))) (aCons (eBin oSub (eUn oLen (eVar 0)) (eC (.int 1))) aNil)))) (eBin oNe (eVar 2) (eVar 1))))) sNil))
def F_are_deputies : Fn := runFn 1 3 b_are_deputies
/- need_deputies: 0 deputies -/
def b_need_deputies : Sm := (sSeq (sIf (tNot (tB (eCall F_are_deputies (aCons (eVar 0) aNil)))) (sSeq sNever sNil) sNil) sNil)
def F_need_deputies : Fn := runFn 1 1 b_need_deputies
/- need_person: 0 deputies, 1 person -/
def b_need_person : Sm := (sSeq (sIf (tNot (tB (eCall F_is_in (aCons (eVar 1) (aCons (eC (.int 0)) (aCons (eBin oSub (eUn oLen (eVar 0)) (eC (.int 1))) aNil)))))) (sSeq sNever sNil) sNil) sNil)
def F_need_person : Fn := runFn 2 2 b_need_person
/- chain_of: 0 deputies, 1 person, 2 found, 3 here -/
def b_chain_of : Sm := (sSeq (sPar [2, 3] (aCons (eLst aNil) (aCons (eVar 1) aNil))) (sSeq (sWhile 0 (tAnd (tB (eBin oNe (eVar 3) (eUn oNeg (eC (.int 1))))) (tB (eBin oNotIn (eVar 3) (eVar 2)))) (sSeq (sApp 2 (eVar 3)) (sSeq (sSet 3 (eBin oIx (eVar 0) (eVar 3))) sNil))) (sSeq (sRet (eVar 2)) sNil)))
def F_chain_of : Fn := runFn 2 4 b_chain_of
/- holder_of: 0 deputies, 1 gone, 2 person, 3 one -/
def b_holder_of : Sm := (sSeq (sFor (gVar 3) (wSeq (eCall F_chain_of (aCons (eVar 0) (aCons (eVar 2) aNil)))) (sSeq (sIf (tB (eBin oNotIn (eVar 3) (eVar 1))) (sSeq (sRet (eVar 3)) sNil) sNil) sNil)) (sSeq (sRet (eUn oNeg (eC (.int 1)))) sNil))
def F_holder_of : Fn := runFn 3 4 b_holder_of
/- all_holders: 0 deputies, 1 gone, 2 person -/
def b_all_holders : Sm := (sSeq (sRet (eComp [2] (wRange (eUn oLen (eVar 0))) (gVar 2) tYes (eCall F_holder_of (aCons (eVar 0) (aCons (eVar 1) (aCons (eVar 2) aNil)))))) sNil)
def F_all_holders : Fn := runFn 2 3 b_all_holders
/- is_order: 0 size, 1 value, 2 one -/
def b_is_order : Sm := (sSeq (sIf (tOr (tNot (tB (eCall (fIs .tTup) (aCons (eVar 1) aNil)))) (tNot (tB (eAll [2] (wSeq (eVar 1)) (gVar 2) tYes (eCall F_is_in (aCons (eVar 2) (aCons (eC (.int 0)) (aCons (eBin oSub (eVar 0) (eC (.int 1))) aNil)))))))) (sSeq (sRet (eC (.bl false))) sNil) sNil) (sSeq (sRet (eBin oEq (eUn oLen (eCompI [2] (wSeq (eVar 1)) (gVar 2) (eVar 2) (eC (.bl true)))) (eUn oLen (eVar 1)))) sNil))
def F_is_order : Fn := runFn 2 3 b_is_order
/- stages: 0 deputies, 1 order, 2 many -/
def b_stages : Sm := (sSeq (sRet (eComp [2] (wRange (eBin oAdd (eUn oLen (eVar 1)) (eC (.int 1)))) (gVar 2) tYes (eCall F_all_holders (aCons (eVar 0) (aCons (eBin oTo (eVar 1) (eVar 2)) aNil))))) sNil)
def F_stages : Fn := runFn 2 3 b_stages
/- handings_of: 0 deputies, 1 order, 2 person, 3 found, 4 stage -/
def b_handings_of : Sm := (sSeq (sSet 3 (eLst aNil)) (sSeq (sFor (gVar 4) (wSeq (eCall F_stages (aCons (eVar 0) (aCons (eVar 1) aNil)))) (sSeq (sIf (tB (eBin oNotIn (eBin oIx (eVar 4) (eVar 2)) (eVar 3))) (sSeq (sApp 3 (eBin oIx (eVar 4) (eVar 2))) sNil) sNil) sNil)) (sSeq (sRet (eVar 3)) sNil)))
def F_handings_of : Fn := runFn 3 5 b_handings_of
/- is_told: 0 size, 1 value, 2 some, 3 one -/
def b_is_told : Sm := (sSeq (sIf (tOr (tNot (tB (eCall (fIs .tTup) (aCons (eVar 1) aNil)))) (tOr (tB (eBin oNe (eUn oLen (eVar 1)) (eC (.int 2)))) (tNot (tB (eCall F_is_in (aCons (eBin oIx (eVar 1) (eC (.int 0))) (aCons (eC (.int 0)) (aCons (eBin oSub (eVar 0) (eC (.int 1))) aNil)))))))) (sSeq (sRet (eC (.bl false))) sNil) sNil) (sSeq (sSet 2 (eBin oIx (eVar 1) (eC (.int 1)))) (sSeq (sIf (tOr (tNot (tB (eCall (fIs .tTup) (aCons (eVar 2) aNil)))) (tOr (tNot (tTr (eVar 2))) (tNot (tB (eAll [3] (wSeq (eVar 2)) (gVar 3) tYes (eCall F_is_in (aCons (eVar 3) (aCons (eUn oNeg (eC (.int 1))) (aCons (eBin oSub (eVar 0) (eC (.int 1))) aNil))))))))) (sSeq (sRet (eC (.bl false))) sNil) sNil) (sSeq (sRet (eAnd (eBin oEq (eUn oLen (eCompI [3] (wSeq (eVar 2)) (gVar 3) (eVar 3) (eC (.bl true)))) (eUn oLen (eVar 2))) (eBin oNotIn (eUn oNeg (eC (.int 1))) (eBin oTo (eVar 2) (eUn oNeg (eC (.int 1))))))) sNil))))
def F_is_told : Fn := runFn 2 4 b_is_told
/- need_told: 0 deputies, 1 told, 2 index, 3 one -/
def b_need_told : Sm := (sSeq (sEx (eCall F_need_deputies (aCons (eVar 0) aNil))) (sSeq (sIf (tNot (tB (eCall (fIs .tTup) (aCons (eVar 1) aNil)))) (sSeq sNever sNil) sNil) (sSeq (sFor (gTup [(gVar 2), (gVar 3)]) (wEnum (eVar 1)) (sSeq (sIf (tOr (tNot (tB (eCall F_is_told (aCons (eUn oLen (eVar 0)) (aCons (eVar 3) aNil))))) (tAnd (tB (eBin oGt (eVar 2) (eC (.int 0)))) (tB (eBin oLe (eBin oIx (eVar 3) (eC (.int 0))) (eBin oIx (eBin oIx (eVar 1) (eBin oSub (eVar 2) (eC (.int 1)))) (eC (.int 0))))))) (sSeq sNever sNil) sNil) sNil)) sNil)))
def F_need_told : Fn := runFn 2 4 b_need_told
/- begins: 0 deputies, 1 told, 2 person, 3 some, 4 one -/
def b_begins : Sm := (sSeq (sIf (tB (eAny [2, 3] (wSeq (eVar 1)) (gTup [(gVar 2), (gVar 3)]) tYes (eBin oNe (eBin oIx (eVar 3) (eC (.int 0))) (eVar 2)))) (sSeq (sRet (eC .non)) sNil) sNil) (sSeq (sRet (eUn oTuple (eComp [4] (wSeq (eVar 1)) (gVar 4) tYes (eC (.int 1))))) sNil))
def F_begins : Fn := runFn 2 5 b_begins
/- goes_on: 0 deputies, 1 told, 2 come, 3 gone, 4 found, 5 there, 6 person, 7 some, 8 many, 9 here -/
def b_goes_on : Sm := (sSeq (sPar [4, 5] (aCons (eLst aNil) (aCons (eCall F_all_holders (aCons (eVar 0) (aCons (eVar 3) aNil))) aNil))) (sSeq (sFor (gTup [(gTup [(gVar 6), (gVar 7)]), (gVar 8)]) (wZip (eVar 1) (eVar 2)) (sSeq (sSet 9 (eBin oIx (eVar 5) (eVar 6))) (sSeq (sIf (tB (eBin oEq (eVar 9) (eBin oIx (eVar 7) (eBin oSub (eVar 8) (eC (.int 1)))))) (sSeq (sApp 4 (eVar 8)) sNil) (sSeq (sIf (tAnd (tB (eBin oLt (eVar 8) (eUn oLen (eVar 7)))) (tB (eBin oEq (eBin oIx (eVar 7) (eVar 8)) (eVar 9)))) (sSeq (sApp 4 (eBin oAdd (eVar 8) (eC (.int 1)))) sNil) (sSeq (sRet (eC .non)) sNil)) sNil)) sNil))) (sSeq (sRet (eUn oTuple (eVar 4))) sNil)))
def F_goes_on : Fn := runFn 4 10 b_goes_on
/- ratio: 0 top, 1 bottom, 2 common -/
def b_ratio : Sm := (sSeq (sSet 2 (eIf (tB (eBin oGt (eVar 1) (eC (.int 0)))) (eBin oGcd (eVar 0) (eVar 1)) (eBin oSub (eC (.int 0)) (eBin oGcd (eVar 0) (eVar 1))))) (sSeq (sRet (eTup (aCons (eBin oDivW (eVar 0) (eVar 2)) (aCons (eBin oDivW (eVar 1) (eVar 2)) aNil)))) sNil))
def F_ratio : Fn := runFn 2 3 b_ratio
/- plus: 0 one, 1 other -/
def b_plus : Sm := (sSeq (sRet (eCall F_ratio (aCons (eBin oAdd (eBin oMul (eBin oIx (eVar 0) (eC (.int 0))) (eBin oIx (eVar 1) (eC (.int 1)))) (eBin oMul (eBin oIx (eVar 1) (eC (.int 0))) (eBin oIx (eVar 0) (eC (.int 1))))) (aCons (eBin oMul (eBin oIx (eVar 0) (eC (.int 1))) (eBin oIx (eVar 1) (eC (.int 1)))) aNil)))) sNil)
def F_plus : Fn := runFn 2 2 b_plus
/- by: 0 one, 1 other -/
def b_by : Sm := (sSeq (sRet (eCall F_ratio (aCons (eBin oMul (eBin oIx (eVar 0) (eC (.int 0))) (eBin oIx (eVar 1) (eC (.int 0)))) (aCons (eBin oMul (eBin oIx (eVar 0) (eC (.int 1))) (eBin oIx (eVar 1) (eC (.int 1)))) aNil)))) sNil)
def F_by : Fn := runFn 2 2 b_by
/- are_weights: 0 size, 1 value, 2 one -/
def b_are_weights : Sm := (sSeq (sRet (eAnd (eCall (fIs .tTup) (aCons (eVar 1) aNil)) (eAnd (eBin oEq (eUn oLen (eVar 1)) (eVar 0)) (eAll [2] (wSeq (eVar 1)) (gVar 2) tYes (eCall F_is_in (aCons (eVar 2) (aCons (eC (.int 1)) (aCons (eC (.int 60)) aNil)))))))) sNil)
def F_are_weights : Fn := runFn 2 3 b_are_weights
/- need_weighted: 0 deputies, 1 weights -/
def b_need_weighted : Sm := (sSeq (sEx (eCall F_need_deputies (aCons (eVar 0) aNil))) (sSeq (sIf (tNot (tB (eCall F_are_weights (aCons (eUn oLen (eVar 0)) (aCons (eVar 1) aNil))))) (sSeq sNever sNil) sNil) sNil))
def F_need_weighted : Fn := runFn 2 2 b_need_weighted
/- left_weight: 0 weights, 1 gone, 2 person, 3 one -/
def b_left_weight : Sm := (sSeq (sRet (eSum [2, 3] (wEnum (eVar 0)) (gTup [(gVar 2), (gVar 3)]) (tB (eBin oNotIn (eVar 2) (eVar 1))) (eVar 3))) sNil)
def F_left_weight : Fn := runFn 2 4 b_left_weight
/- handed: 0 deputies, 1 order, 2 person -/
def b_handed : Sm := (sSeq (sRet (eSum [2] (wRange (eUn oLen (eVar 0))) (gVar 2) tYes (eBin oSub (eUn oLen (eCall F_handings_of (aCons (eVar 0) (aCons (eVar 1) (aCons (eVar 2) aNil))))) (eC (.int 1))))) sNil)
def F_handed : Fn := runFn 2 3 b_handed
/- most_row: 0 deputies, 1 size, 2 found, 3 turn, 4 more, 5 gone, 6 total, 7 row, 8 there, 9 person, 10 lot, 11 part -/
def b_most_row : Sm := (sSeq (sSet 1 (eUn oLen (eVar 0))) (sSeq (sSet 2 (eDict1 (eTup aNil) (eTup (aCons (eC (.int 0)) (aCons (eTup aNil) aNil))))) (sSeq (sFor (gVar 3) (wRange (eVar 1)) (sSeq (sSet 4 eDict0) (sSeq (sFor (gVar 5) (wKeys (eVar 2)) (sSeq (sTgt (gTup [(gVar 6), (gVar 7)]) (eBin oGet (eVar 2) (eVar 5))) (sSeq (sSet 8 (eCall F_all_holders (aCons (eVar 0) (aCons (eVar 5) aNil)))) (sSeq (sFor (gVar 9) (wRange (eVar 1)) (sSeq (sIf (tB (eBin oNotIn (eVar 9) (eVar 5))) (sSeq (sSet 10 (eUn oTuple (eUn oSorted (eLst (aStar (eVar 5) (aCons (eVar 9) aNil)))))) (sSeq (sSet 11 (eTup (aCons (eBin oAdd (eVar 6) (eBin oCount (eVar 8) (eVar 9))) (aCons (eTup (aStar (eVar 7) (aCons (eVar 9) aNil))) aNil)))) (sSeq (sIf (tOr (tB (eBin oNotInT (eVar 10) (eVar 4))) (tB (eBin oGt (eBin oIx (eVar 11) (eC (.int 0))) (eBin oIx (eBin oGet (eVar 4) (eVar 10)) (eC (.int 0)))))) (sSeq (sPut 4 (eVar 10) (eVar 11)) sNil) sNil) sNil))) sNil) sNil)) sNil)))) (sSeq (sSet 2 (eVar 4)) sNil)))) (sSeq (sRet (eBin oGet (eVar 2) (eUn oTupRg (eVar 1)))) sNil))))
def F_most_row : Fn := runFn 1 12 b_most_row
/- most_handings: 0 deputies -/
def b_most_handings : Sm := (sSeq (sEx (eCall F_need_deputies (aCons (eVar 0) aNil))) (sSeq (sRet (eCall F_most_row (aCons (eVar 0) aNil))) sNil))
def F_most_handings : Fn := runFn 1 1 b_most_handings
/- shows_most_handings: 0 deputies, 1 value, 2 best, 3 size -/
def b_shows_most_handings : Sm := (sSeq (sEx (eCall F_need_deputies (aCons (eVar 0) aNil))) (sSeq (sPar [2, 3] (aCons (eBin oIx (eCall F_most_row (aCons (eVar 0) aNil)) (eC (.int 0))) (aCons (eUn oLen (eVar 0)) aNil))) (sSeq (sIf (tOr (tNot (tB (eCall (fIs .tTup) (aCons (eVar 1) aNil)))) (tOr (tB (eBin oNe (eUn oLen (eVar 1)) (eC (.int 2)))) (tNot (tB (eCall F_is_in (aCons (eBin oIx (eVar 1) (eC (.int 0))) (aCons (eVar 2) (aCons (eVar 2) aNil)))))))) (sSeq (sRet (eC (.bl false))) sNil) sNil) (sSeq (sRet (eAnd (eCall F_is_order (aCons (eVar 3) (aCons (eBin oIx (eVar 1) (eC (.int 1))) aNil))) (eAnd (eBin oEq (eUn oLen (eBin oIx (eVar 1) (eC (.int 1)))) (eVar 3)) (eBin oEq (eCall F_handed (aCons (eVar 0) (aCons (eBin oIx (eVar 1) (eC (.int 1))) aNil))) (eVar 2))))) sNil))))
def F_shows_most_handings : Fn := runFn 2 4 b_shows_most_handings
/- all_orders: 0 size, 1 found, 2 turn, 3 more, 4 row, 5 person -/
def b_all_orders : Sm := (sSeq (sSet 1 (eLst (aCons (eTup aNil) aNil))) (sSeq (sFor (gVar 2) (wRange (eVar 0)) (sSeq (sSet 3 (eLst aNil)) (sSeq (sFor (gVar 4) (wSeq (eVar 1)) (sSeq (sSet 3 (eBin oCatL (eVar 3) (eComp [5] (wRange (eVar 0)) (gVar 5) (tB (eBin oNotIn (eVar 5) (eVar 4))) (eTup (aStar (eVar 4) (aCons (eVar 5) aNil)))))) sNil)) (sSeq (sSet 1 (eVar 3)) sNil)))) (sSeq (sRet (eVar 1)) sNil)))
def F_all_orders : Fn := runFn 1 6 b_all_orders
/- with_names: 0 deputies, 1 order, 2 found, 3 person, 4 deputy -/
def b_with_names : Sm := (sSeq (sSet 2 (eUn oList (eVar 0))) (sSeq (sFor (gTup [(gVar 3), (gVar 4)]) (wEnum (eVar 0)) (sSeq (sSetIx 2 (eBin oIx (eVar 1) (eVar 3)) (eIf (tB (eBin oEq (eVar 4) (eUn oNeg (eC (.int 1))))) (eUn oNeg (eC (.int 1))) (eBin oIx (eVar 1) (eVar 4)))) sNil)) (sSeq (sRet (eUn oTuple (eVar 2))) sNil)))
def F_with_names : Fn := runFn 2 5 b_with_names
/- shape_of: 0 deputies, 1 order -/
def b_shape_of : Sm := (sSeq (sRet (eUn oMinT (eComp [1] (wSeq (eCall F_all_orders (aCons (eUn oLen (eVar 0)) aNil))) (gVar 1) tYes (eCall F_with_names (aCons (eVar 0) (aCons (eVar 1) aNil)))))) sNil)
def F_shape_of : Fn := runFn 1 2 b_shape_of
/- shape: 0 deputies -/
def b_shape : Sm := (sSeq (sEx (eCall F_need_deputies (aCons (eVar 0) aNil))) (sSeq (sRet (eCall F_shape_of (aCons (eVar 0) aNil))) sNil))
def F_shape : Fn := runFn 1 1 b_shape
/- alike: 0 one, 1 other -/
def b_alike : Sm := (sSeq (sEx (eCall F_need_deputies (aCons (eVar 0) aNil))) (sSeq (sIf (tOr (tNot (tB (eCall F_are_deputies (aCons (eVar 1) aNil)))) (tB (eBin oNe (eUn oLen (eVar 1)) (eUn oLen (eVar 0))))) (sSeq sNever sNil) sNil) (sSeq (sRet (eBin oEq (eCall F_shape_of (aCons (eVar 0) aNil)) (eCall F_shape_of (aCons (eVar 1) aNil)))) sNil)))
def F_alike : Fn := runFn 2 2 b_alike
/- own_names: 0 deputies, 1 order -/
def b_own_names : Sm := (sSeq (sEx (eCall F_need_deputies (aCons (eVar 0) aNil))) (sSeq (sRet (eUn oLen (eComp [1] (wSeq (eCall F_all_orders (aCons (eUn oLen (eVar 0)) aNil))) (gVar 1) (tB (eBin oEq (eCall F_with_names (aCons (eVar 0) (aCons (eVar 1) aNil))) (eVar 0))) (eC (.int 1))))) sNil))
def F_own_names : Fn := runFn 1 2 b_own_names
/- told_chance: 0 deputies, 1 weights, 2 told, 3 size, 4 come, 5 found, 6 turn, 7 more, 8 gone, 9 many, 10 whole, 11 person, 12 lot, 13 there, 14 part, 15 some -/
def b_told_chance : Sm := (sSeq (sEx (eCall F_need_weighted (aCons (eVar 0) (aCons (eVar 1) aNil)))) (sSeq (sEx (eCall F_need_told (aCons (eVar 0) (aCons (eVar 2) aNil)))) (sSeq (sPar [3, 4] (aCons (eUn oLen (eVar 0)) (aCons (eCall F_begins (aCons (eVar 0) (aCons (eVar 2) aNil))) aNil))) (sSeq (sSet 5 (eIf (tB (eIsN (eVar 4))) eDict0 (eDict1 (eTup (aCons (eTup aNil) (aCons (eVar 4) aNil))) (eTup (aCons (eC (.int 1)) (aCons (eC (.int 1)) aNil)))))) (sSeq (sFor (gVar 6) (wRange (eVar 3)) (sSeq (sSet 7 eDict0) (sSeq (sFor (gTup [(gVar 8), (gVar 9)]) (wKeys (eVar 5)) (sSeq (sSet 10 (eCall F_left_weight (aCons (eVar 1) (aCons (eVar 8) aNil)))) (sSeq (sFor (gVar 11) (wRange (eVar 3)) (sSeq (sIf (tB (eBin oNotIn (eVar 11) (eVar 8))) (sSeq (sSet 12 (eUn oTuple (eUn oSorted (eLst (aStar (eVar 8) (aCons (eVar 11) aNil)))))) (sSeq (sSet 13 (eCall F_goes_on (aCons (eVar 0) (aCons (eVar 2) (aCons (eVar 9) (aCons (eVar 12) aNil)))))) (sSeq (sIf (tB (eNotN (eVar 13))) (sSeq (sSet 14 (eCall F_by (aCons (eBin oGet (eVar 5) (eTup (aCons (eVar 8) (aCons (eVar 9) aNil)))) (aCons (eCall F_ratio (aCons (eBin oIx (eVar 1) (eVar 11)) (aCons (eVar 10) aNil))) aNil)))) (sSeq (sPut 7 (eTup (aCons (eVar 12) (aCons (eVar 13) aNil))) (eCall F_plus (aCons (eGet3 (eVar 7) (eTup (aCons (eVar 12) (aCons (eVar 13) aNil))) (eTup (aCons (eC (.int 0)) (aCons (eC (.int 1)) aNil)))) (aCons (eVar 14) aNil)))) sNil)) sNil) sNil))) sNil) sNil)) sNil))) (sSeq (sSet 5 (eVar 7)) sNil)))) (sSeq (sSet 10 (eTup (aCons (eC (.int 0)) (aCons (eC (.int 1)) aNil)))) (sSeq (sFor (gTup [(gVar 8), (gVar 4)]) (wKeys (eVar 5)) (sSeq (sIf (tB (eAll [11, 15, 9] (wZip (eVar 2) (eVar 4)) (gTup [(gTup [(gVar 11), (gVar 15)]), (gVar 9)]) tYes (eBin oEq (eVar 9) (eUn oLen (eVar 15))))) (sSeq (sSet 10 (eCall F_plus (aCons (eVar 10) (aCons (eBin oGet (eVar 5) (eTup (aCons (eVar 8) (aCons (eVar 4) aNil)))) aNil)))) sNil) sNil) sNil)) (sSeq (sRet (eVar 10)) sNil))))))))
def F_told_chance : Fn := runFn 3 16 b_told_chance
/- handing_chances_by: 0 deputies, 1 weights, 2 person, 3 size, 4 found, 5 turn, 6 more, 7 gone, 8 many, 9 whole, 10 there, 11 one, 12 key, 13 part, 14 length -/
def b_handing_chances_by : Sm := (sSeq (sEx (eCall F_need_weighted (aCons (eVar 0) (aCons (eVar 1) aNil)))) (sSeq (sEx (eCall F_need_person (aCons (eVar 0) (aCons (eVar 2) aNil)))) (sSeq (sPar [3, 4] (aCons (eUn oLen (eVar 0)) (aCons (eDict1 (eTup (aCons (eTup aNil) (aCons (eC (.int 0)) aNil))) (eTup (aCons (eC (.int 1)) (aCons (eC (.int 1)) aNil)))) aNil))) (sSeq (sFor (gVar 5) (wRange (eVar 3)) (sSeq (sSet 6 eDict0) (sSeq (sFor (gTup [(gVar 7), (gVar 8)]) (wKeys (eVar 4)) (sSeq (sSet 9 (eCall F_left_weight (aCons (eVar 1) (aCons (eVar 7) aNil)))) (sSeq (sSet 10 (eCall F_holder_of (aCons (eVar 0) (aCons (eVar 7) (aCons (eVar 2) aNil))))) (sSeq (sFor (gVar 11) (wRange (eVar 3)) (sSeq (sIf (tB (eBin oNotIn (eVar 11) (eVar 7))) (sSeq (sSet 12 (eTup (aCons (eUn oTuple (eUn oSorted (eLst (aStar (eVar 7) (aCons (eVar 11) aNil))))) (aCons (eBin oAdd (eVar 8) (eIf (tB (eBin oEq (eVar 11) (eVar 10))) (eC (.int 1)) (eC (.int 0)))) aNil)))) (sSeq (sSet 13 (eCall F_by (aCons (eBin oGet (eVar 4) (eTup (aCons (eVar 7) (aCons (eVar 8) aNil)))) (aCons (eCall F_ratio (aCons (eBin oIx (eVar 1) (eVar 11)) (aCons (eVar 9) aNil))) aNil)))) (sSeq (sPut 6 (eVar 12) (eCall F_plus (aCons (eGet3 (eVar 6) (eVar 12) (eTup (aCons (eC (.int 0)) (aCons (eC (.int 1)) aNil)))) (aCons (eVar 13) aNil)))) sNil))) sNil) sNil)) sNil)))) (sSeq (sSet 4 (eVar 6)) sNil)))) (sSeq (sSet 14 (eUn oLen (eCall F_chain_of (aCons (eVar 0) (aCons (eVar 2) aNil))))) (sSeq (sRet (eUn oTuple (eComp [8] (wRange (eBin oAdd (eVar 14) (eC (.int 1)))) (gVar 8) tYes (eGet3 (eVar 4) (eTup (aCons (eUn oTupRg (eVar 3)) (aCons (eVar 8) aNil))) (eTup (aCons (eC (.int 0)) (aCons (eC (.int 1)) aNil))))))) sNil))))))
def F_handing_chances_by : Fn := runFn 3 15 b_handing_chances_by
abbrev F_law_taken : Fn := fTaken
/- _law_pick: 0 _law_row, 1 _law_things -/
def b_law_pick : Sm := (sSeq (sRet (eBin oIx (eVar 1) (eCall F_law_taken (aCons (eVar 0) (aCons (eUn oLen (eVar 1)) aNil))))) sNil)
def F_law_pick : Fn := runFn 2 2 b_law_pick
/- _law_alike: 0 _law_found, 1 _law_due, 2 _law_k -/
def b_law_alike (self : Fn) : Sm := (sSeq (sIf (tB (eCall fIsTL (aCons (eVar 1) aNil))) (sSeq (sIf (tOr (tNot (tB (eCall fIsTL (aCons (eVar 0) aNil)))) (tB (eBin oNe (eCall (fIs .tLst) (aCons (eVar 0) aNil)) (eCall (fIs .tLst) (aCons (eVar 1) aNil))))) (sSeq (sRet (eC (.bl false))) sNil) sNil) (sSeq (sIf (tB (eBin oNe (eUn oLen (eVar 0)) (eUn oLen (eVar 1)))) (sSeq (sRet (eC (.bl false))) sNil) sNil) (sSeq (sRet (eBin oEq (eComp [2] (wRange (eUn oLen (eVar 1))) (gVar 2) (tNot (tB (eCall self (aCons (eBin oIx (eVar 0) (eVar 2)) (aCons (eBin oIx (eVar 1) (eVar 2)) aNil))))) (eVar 2)) (eLst aNil))) sNil))) sNil) (sSeq (sIf (tOr (tB (eIsN (eVar 1))) (tB (eCall (fIs .tStr) (aCons (eVar 1) aNil)))) (sSeq (sRet (eAnd (eBin oEq (eVar 0) (eVar 1)) (eBin oEq (eCall (fIs .tStr) (aCons (eVar 0) aNil)) (eCall (fIs .tStr) (aCons (eVar 1) aNil))))) sNil) sNil) (sSeq (sRet (eAnd (eCall (fIs .tInt) (aCons (eVar 0) aNil)) (eAnd (eBin oEq (eCall (fIs .tBool) (aCons (eVar 0) aNil)) (eCall (fIs .tBool) (aCons (eVar 1) aNil))) (eBin oEq (eVar 0) (eVar 1))))) sNil)))
def F_law_alike : Nat → Fn
  | 0 => fun _ _ => none
  | n + 1 => runFn 2 3 (b_law_alike (F_law_alike n))
/- _law_ratio: 0 _law_top, 1 _law_bottom, 2 _law_one, 3 _law_other -/
def b_law_ratio : Sm := (sSeq (sPar [2, 3] (aCons (eUn oAbs (eVar 0)) (aCons (eUn oAbs (eVar 1)) aNil))) (sSeq (sWhile 3 (tB (eBin oNe (eVar 3) (eC (.int 0)))) (sSeq (sPar [2, 3] (aCons (eVar 3) (aCons (eBin oMod (eUn oInt (eVar 2)) (eVar 3)) aNil))) sNil)) (sSeq (sRet (eIf (tB (eBin oGt (eVar 1) (eC (.int 0)))) (eTup (aCons (eBin oDivW (eVar 0) (eVar 2)) (aCons (eBin oDivW (eVar 1) (eVar 2)) aNil))) (eTup (aCons (eBin oSub (eC (.int 0)) (eBin oDivW (eVar 0) (eVar 2))) (aCons (eBin oSub (eC (.int 0)) (eBin oDivW (eVar 1) (eVar 2))) aNil))))) sNil)))
def F_law_ratio : Fn := runFn 2 4 b_law_ratio
/- _law_plus: 0 _law_one, 1 _law_other -/
def b_law_plus : Sm := (sSeq (sRet (eCall F_law_ratio (aCons (eBin oAdd (eBin oMul (eBin oIx (eVar 0) (eC (.int 0))) (eBin oIx (eVar 1) (eC (.int 1)))) (eBin oMul (eBin oIx (eVar 1) (eC (.int 0))) (eBin oIx (eVar 0) (eC (.int 1))))) (aCons (eBin oMul (eBin oIx (eVar 0) (eC (.int 1))) (eBin oIx (eVar 1) (eC (.int 1)))) aNil)))) sNil)
def F_law_plus : Fn := runFn 2 2 b_law_plus
/- _law_by: 0 _law_one, 1 _law_other -/
def b_law_by : Sm := (sSeq (sRet (eCall F_law_ratio (aCons (eBin oMul (eBin oIx (eVar 0) (eC (.int 0))) (eBin oIx (eVar 1) (eC (.int 0)))) (aCons (eBin oMul (eBin oIx (eVar 0) (eC (.int 1))) (eBin oIx (eVar 1) (eC (.int 1)))) aNil)))) sNil)
def F_law_by : Fn := runFn 2 2 b_law_by
/- _law_deputies: 0 _law_row, 1 _law_size, 2 _law_found, 3 _law_person, 4 _law_one -/
def b_law_deputies : Sm := (sSeq (sSet 2 (eLst aNil)) (sSeq (sFor (gVar 3) (wRange (eVar 1)) (sSeq (sSet 4 (eBin oSub (eCall F_law_taken (aCons (eVar 0) (aCons (eVar 1) aNil))) (eC (.int 1)))) (sSeq (sApp 2 (eBin oAdd (eVar 4) (eUn oInt (eBin oGe (eVar 4) (eVar 3))))) sNil))) (sSeq (sRet (eUn oTuple (eVar 2))) sNil)))
def F_law_deputies : Fn := runFn 2 5 b_law_deputies
/- _law_chain: 0 _law_deputies_here, 1 _law_person, 2 _law_found, 3 _law_turn -/
def b_law_chain : Sm := (sSeq (sSet 2 (eLst aNil)) (sSeq (sFor (gVar 3) (wRange (eUn oLen (eVar 0))) (sSeq (sIf (tAnd (tB (eBin oNe (eVar 1) (eUn oNeg (eC (.int 1))))) (tB (eBin oNotIn (eVar 1) (eVar 2)))) (sSeq (sApp 2 (eVar 1)) (sSeq (sSet 1 (eBin oIx (eVar 0) (eVar 1))) sNil)) sNil) sNil)) (sSeq (sRet (eVar 2)) sNil)))
def F_law_chain : Fn := runFn 2 4 b_law_chain
/- _law_holder: 0 _law_deputies_here, 1 _law_gone, 2 _law_person, 3 _law_here, 4 _law_seen, 5 _law_turn -/
def b_law_holder : Sm := (sSeq (sPar [3, 4] (aCons (eVar 2) (aCons (eLst aNil) aNil))) (sSeq (sFor (gVar 5) (wRange (eBin oAdd (eUn oLen (eVar 0)) (eC (.int 1)))) (sSeq (sIf (tOr (tB (eBin oEq (eVar 3) (eUn oNeg (eC (.int 1))))) (tB (eBin oIn (eVar 3) (eVar 4)))) (sSeq (sRet (eUn oNeg (eC (.int 1)))) sNil) sNil) (sSeq (sIf (tB (eBin oNotIn (eVar 3) (eVar 1))) (sSeq (sRet (eVar 3)) sNil) sNil) (sSeq (sApp 4 (eVar 3)) (sSeq (sSet 3 (eBin oIx (eVar 0) (eVar 3))) sNil))))) (sSeq (sRet (eUn oNeg (eC (.int 1)))) sNil)))
def F_law_holder : Fn := runFn 3 6 b_law_holder
/- _law_orders: 0 _law_some, 1 _law_found, 2 _law_k, 3 _law_rest -/
def b_law_orders (self : Fn) : Sm := (sSeq (sIf (tB (eBin oEq (eVar 0) (eLst aNil))) (sSeq (sRet (eLst (aCons (eTup aNil) aNil))) sNil) sNil) (sSeq (sSet 1 (eLst aNil)) (sSeq (sFor (gVar 2) (wRange (eUn oLen (eVar 0))) (sSeq (sSet 1 (eBin oCatL (eVar 1) (eComp [3] (wSeq (eCall self (aCons (eBin oCatL (eBin oTo (eVar 0) (eVar 2)) (eBin oFrom (eVar 0) (eBin oAdd (eVar 2) (eC (.int 1))))) aNil))) (gVar 3) tYes (eBin oCatT (eTup (aCons (eBin oIx (eVar 0) (eVar 2)) aNil)) (eVar 3))))) sNil)) (sSeq (sRet (eVar 1)) sNil))))
def F_law_orders : Nat → Fn
  | 0 => fun _ _ => none
  | n + 1 => runFn 1 4 (b_law_orders (F_law_orders n))
/- _law_order: 0 _law_row, 1 _law_size, 2 _law_found, 3 _law_left, 4 _law_turn, 5 _law_one, 6 _law_k -/
def b_law_order : Sm := (sSeq (sPar [2, 3] (aCons (eTup aNil) (aCons (eUn oListRg (eVar 1)) aNil))) (sSeq (sFor (gVar 4) (wRange (eVar 1)) (sSeq (sSet 5 (eCall F_law_pick (aCons (eVar 0) (aCons (eVar 3) aNil)))) (sSeq (sPar [2, 3] (aCons (eBin oCatT (eVar 2) (eTup (aCons (eVar 5) aNil))) (aCons (eComp [6] (wSeq (eVar 3)) (gVar 6) (tB (eBin oNe (eVar 6) (eVar 5))) (eVar 6)) aNil))) sNil))) (sSeq (sRet (eVar 2)) sNil)))
def F_law_order : Fn := runFn 2 7 b_law_order
/- _law_handed: 0 _law_deputies_here, 1 _law_order_here, 2 _law_person, 3 _law_found, 4 _law_k, 5 _law_there -/
def b_law_handed : Sm := (sSeq (sSet 3 (eLst (aCons (eVar 2) aNil))) (sSeq (sFor (gVar 4) (wRange (eUn oLen (eVar 1))) (sSeq (sSet 5 (eCall F_law_holder (aCons (eVar 0) (aCons (eBin oTo (eVar 1) (eBin oAdd (eVar 4) (eC (.int 1)))) (aCons (eVar 2) aNil))))) (sSeq (sIf (tB (eBin oNe (eVar 5) (eBin oIx (eVar 3) (eUn oNeg (eC (.int 1)))))) (sSeq (sApp 3 (eVar 5)) sNil) sNil) sNil))) (sSeq (sRet (eVar 3)) sNil)))
def F_law_handed : Fn := runFn 3 6 b_law_handed
/- law: 0 _law_script, 1 _law_row, 2 _law_size, 3 _law_deputies_here, 4 _law_other, 5 _law_every, 6 _law_sums, 7 _law_one, 8 _law_k, 9 _law_best, 10 _law_found, 11 _law_value, 12 _law_due, 13 _law_names, 14 _law_order_here, 15 _law_weights, 16 _law_person, 17 _law_told, 18 _law_whole, 19 _law_counts, 20 _law_chance, 21 _law_left, 22 _law_at, 23 _law_some -/
def b_law : Sm := (sSeq (sSet 2 (eBin oAdd (eC (.int 1)) (eCall F_law_taken (aCons (eVar 1) (aCons (eC (.int 4)) aNil))))) (sSeq (sPar [3, 4, 5] (aCons (eCall F_law_deputies (aCons (eVar 1) (aCons (eVar 2) aNil))) (aCons (eCall F_law_deputies (aCons (eVar 1) (aCons (eVar 2) aNil))) (aCons (eCall (F_law_orders 6) (aCons (eUn oListRg (eVar 2)) aNil)) aNil)))) (sSeq (sSet 6 (eComp [7] (wSeq (eVar 5)) (gVar 7) tYes (eUn oSum (eComp [8] (wRange (eVar 2)) (gVar 8) tYes (eBin oSub (eUn oLen (eCall F_law_handed (aCons (eVar 3) (aCons (eVar 7) (aCons (eVar 8) aNil))))) (eC (.int 1))))))) (sSeq (sPar [9, 10] (aCons (eUn oMax (eVar 6)) (aCons (eCall F_most_handings (aCons (eVar 3) aNil)) aNil))) (sSeq (sIf (tOr (tNot (tB (eCall (fIs .tTup) (aCons (eVar 10) aNil)))) (tOr (tB (eBin oNe (eUn oLen (eVar 10)) (eC (.int 2)))) (tOr (tB (eBin oNe (eBin oIx (eVar 10) (eC (.int 0))) (eVar 9))) (tOr (tB (eBin oNotInD (eBin oIx (eVar 10) (eC (.int 1))) (eVar 5))) (tB (eBin oNe (eBin oIx (eVar 6) (eBin oIndex (eVar 5) (eBin oIx (eVar 10) (eC (.int 1))))) (eVar 9))))))) (sSeq (sRet (eC (.bl false))) sNil) sNil) (sSeq (sFor (gVar 11) (wSeq (eBin oCatL (eLst (aCons (eVar 10) (aCons (eUn oList (eVar 10)) (aCons (eTup (aCons (eBin oAdd (eVar 9) (eC (.int 1))) (aCons (eBin oIx (eVar 10) (eC (.int 1))) aNil))) (aCons (eTup (aCons (eVar 9) (aCons (eUn oList (eBin oIx (eVar 10) (eC (.int 1)))) aNil))) (aCons (eTup (aCons (eVar 9) (aCons (eTup aNil) aNil))) (aCons (eC .non) (aCons (eC (.int 3)) aNil)))))))) (eComp [7] (wSeq (eVar 5)) (gVar 7) tYes (eTup (aCons (eVar 9) (aCons (eVar 7) aNil)))))) (sSeq (sSet 12 (eAnd (eCall (fIs .tTup) (aCons (eVar 11) aNil)) (eAnd (eBin oEq (eUn oLen (eVar 11)) (eC (.int 2))) (eAnd (eBin oEq (eBin oIx (eVar 11) (eC (.int 0))) (eVar 9)) (eCall (fIs .tTup) (aCons (eBin oIx (eVar 11) (eC (.int 1))) aNil)))))) (sSeq (sSet 12 (eAnd (eVar 12) (eAnd (eBin oInD (eBin oIx (eVar 11) (eC (.int 1))) (eVar 5)) (eBin oEq (eBin oIx (eVar 6) (eBin oIndex (eVar 5) (eBin oIx (eVar 11) (eC (.int 1))))) (eVar 9))))) (sSeq (sIf (tNot (tB (eCall (F_law_alike 6) (aCons (eCall F_shows_most_handings (aCons (eVar 3) (aCons (eVar 11) aNil))) (aCons (eVar 12) aNil))))) (sSeq (sRet (eC (.bl false))) sNil) sNil) sNil)))) (sSeq (sSet 13 (eLst aNil)) (sSeq (sFor (gVar 14) (wSeq (eVar 5)) (sSeq (sSet 7 eDictI) (sSeq (sFor (gVar 8) (wRange (eVar 2)) (sSeq (sPutI 7 (eBin oIx (eVar 14) (eVar 8)) (eIf (tB (eBin oNe (eBin oIx (eVar 3) (eVar 8)) (eUn oNeg (eC (.int 1))))) (eBin oIx (eVar 14) (eBin oIx (eVar 3) (eVar 8))) (eUn oNeg (eC (.int 1))))) sNil)) (sSeq (sApp 13 (eUn oTuple (eComp [8] (wRange (eVar 2)) (gVar 8) tYes (eBin oGetI (eVar 7) (eVar 8))))) sNil)))) (sSeq (sIf (tB (eBin oEq (eCall F_law_taken (aCons (eVar 1) (aCons (eC (.int 2)) aNil))) (eC (.int 0)))) (sSeq (sSet 4 (eCall F_law_pick (aCons (eVar 1) (aCons (eVar 13) aNil)))) sNil) sNil) (sSeq (sIf (tOr (tNot (tB (eCall (F_law_alike 6) (aCons (eCall F_shape (aCons (eVar 3) aNil)) (aCons (eUn oMinT (eVar 13)) aNil))))) (tNot (tB (eCall (F_law_alike 6) (aCons (eCall F_own_names (aCons (eVar 3) aNil)) (aCons (eBin oCount (eVar 13) (eVar 3)) aNil)))))) (sSeq (sRet (eC (.bl false))) sNil) sNil) (sSeq (sIf (tNot (tB (eCall (F_law_alike 6) (aCons (eCall F_alike (aCons (eVar 3) (aCons (eVar 4) aNil))) (aCons (eBin oInD (eVar 4) (eVar 13)) aNil))))) (sSeq (sRet (eC (.bl false))) sNil) sNil) (sSeq (sPar [15, 16, 17, 18] (aCons (eUn oTuple (eComp [8] (wRange (eVar 2)) (gVar 8) tYes (eBin oAdd (eC (.int 1)) (eCall F_law_taken (aCons (eVar 1) (aCons (eC (.int 9)) aNil)))))) (aCons (eCall F_law_taken (aCons (eVar 1) (aCons (eVar 2) aNil))) (aCons (eLst aNil) (aCons (eTup (aCons (eC (.int 0)) (aCons (eC (.int 1)) aNil))) aNil))))) (sSeq (sSet 14 (eCall F_law_order (aCons (eVar 1) (aCons (eVar 2) aNil)))) (sSeq (sFor (gVar 8) (wRange (eVar 2)) (sSeq (sIf (tB (eBin oEq (eCall F_law_taken (aCons (eVar 1) (aCons (eC (.int 2)) aNil))) (eC (.int 0)))) (sSeq (sApp 17 (eTup (aCons (eVar 8) (aCons (eUn oTuple (eCall F_law_handed (aCons (eVar 3) (aCons (eVar 14) (aCons (eVar 8) aNil))))) aNil)))) sNil) sNil) sNil)) (sSeq (sSet 19 (eBin oRepL (eLst (aCons (eTup (aCons (eC (.int 0)) (aCons (eC (.int 1)) aNil))) aNil)) (eBin oAdd (eUn oLen (eCall F_law_chain (aCons (eVar 3) (aCons (eVar 16) aNil)))) (eC (.int 1))))) (sSeq (sFor (gVar 7) (wSeq (eVar 5)) (sSeq (sPar [20, 21] (aCons (eTup (aCons (eC (.int 1)) (aCons (eC (.int 1)) aNil))) (aCons (eUn oSum (eVar 15)) aNil))) (sSeq (sFor (gVar 8) (wSeq (eVar 7)) (sSeq (sPar [20, 21] (aCons (eCall F_law_by (aCons (eVar 20) (aCons (eCall F_law_ratio (aCons (eBin oIx (eVar 15) (eVar 8)) (aCons (eVar 21) aNil))) aNil))) (aCons (eBin oSub (eVar 21) (eBin oIx (eVar 15) (eVar 8))) aNil))) sNil)) (sSeq (sIf (tB (eBin oEq (eComp [8, 23] (wSeq (eVar 17)) (gTup [(gVar 8), (gVar 23)]) (tB (eBin oNe (eUn oTuple (eCall F_law_handed (aCons (eVar 3) (aCons (eVar 7) (aCons (eVar 8) aNil))))) (eVar 23))) (eVar 8)) (eLst aNil))) (sSeq (sSet 18 (eCall F_law_plus (aCons (eVar 18) (aCons (eVar 20) aNil)))) sNil) sNil) (sSeq (sSet 22 (eBin oSub (eUn oLen (eCall F_law_handed (aCons (eVar 3) (aCons (eVar 7) (aCons (eVar 16) aNil))))) (eC (.int 1)))) (sSeq (sSetIx 19 (eVar 22) (eCall F_law_plus (aCons (eBin oIx (eVar 19) (eVar 22)) (aCons (eVar 20) aNil)))) sNil)))))) (sSeq (sRet (eAnd (eCall (F_law_alike 6) (aCons (eCall F_told_chance (aCons (eVar 3) (aCons (eVar 15) (aCons (eUn oTuple (eVar 17)) aNil)))) (aCons (eVar 18) aNil))) (eCall (F_law_alike 6) (aCons (eCall F_handing_chances_by (aCons (eVar 3) (aCons (eVar 15) (aCons (eVar 16) aNil)))) (aCons (eUn oTuple (eVar 19)) aNil))))) sNil)))))))))))))))))
end PL
end
section
set_option Elab.async false
set_option autoImplicit false
set_option linter.all false
set_option maxRecDepth 100000
set_option maxHeartbeats 1000000
/-! L1: the plain law: data of ints, loops; chains and holders. -/
namespace PL
abbrev TI (l : List Int) : D := .tup (l.map .int)
abbrev LI (l : List Int) : D := .lst (l.map .int)
def has (l : List Int) (x : Int) : Bool := l.any fun y => y == x
def nth (ds : List Int) (i : Int) : Int := ds.getD i.toNat (-1)
def ran (n : Nat) : List Int := (List.range n).map fun (i : Nat) => (i : Int)
theorem has_iff {l : List Int} {x : Int} : has l x = true ↔ x ∈ l := by simp [has]
theorem has_false {l : List Int} {x : Int} : has l x = false ↔ x ∉ l := by rw [← Bool.not_eq_true, has_iff]
theorem ran_length (n : Nat) : (ran n).length = n := by simp [ran]
theorem mem_ran {n : Nat} {x : Int} : x ∈ ran n ↔ 0 ≤ x ∧ x < n := by
  simp only [ran, List.mem_map, List.mem_range]
  constructor
  · rintro ⟨i, hi, rfl⟩; omega
  · intro h; exact ⟨x.toNat, by omega, by omega⟩
theorem rng_ran (n : Nat) : rng 0 (n : Int) = (ran n).map .int := by
  unfold rng ran
  rw [List.map_map]
  congr 1
  funext i; simp
theorem flat_ints (l : List Int) : (l.map D.int).all D.flat = true := by induction l <;> simp_all [D.flat]
theorem ok_ints (n : Nat) (l : List Int) : (l.map D.int).all (D.ok n) = true := by
  induction l with
  | nil => rfl
  | cons x l ih => rw [List.map_cons, List.all_cons, ih]; cases n <;> rfl
theorem any_ints (l : List Int) (x : Int) : ((l.map D.int).any fun y => y.beq (.int x)) = has l x := by
  unfold has
  rw [List.any_map]
  rfl
theorem oIn_TI (l : List Int) (x : Int) : oIn (.int x) (TI l) = some (.bl (has l x)) := by
  show (if (D.flat (.int x) && (l.map D.int).all D.flat) = true then some (D.bl ((l.map D.int).any fun y => y.beq (.int x))) else none) = _
  rw [flat_ints, any_ints]; rfl
theorem oIn_LI (l : List Int) (x : Int) : oIn (.int x) (LI l) = some (.bl (has l x)) := by
  show (if (D.flat (.int x) && (l.map D.int).all D.flat) = true then some (D.bl ((l.map D.int).any fun y => y.beq (.int x))) else none) = _
  rw [flat_ints, any_ints]; rfl
theorem oNotIn_TI (l : List Int) (x : Int) : oNotIn (.int x) (TI l) = some (.bl (!has l x)) := by
  show (if (D.flat (.int x) && (l.map D.int).all D.flat) = true then some (D.bl (!(l.map D.int).any fun y => y.beq (.int x))) else none) = _
  rw [flat_ints, any_ints]; rfl
theorem oNotIn_LI (l : List Int) (x : Int) : oNotIn (.int x) (LI l) = some (.bl (!has l x)) := by
  show (if (D.flat (.int x) && (l.map D.int).all D.flat) = true then some (D.bl (!(l.map D.int).any fun y => y.beq (.int x))) else none) = _
  rw [flat_ints, any_ints]; rfl
theorem ixOf_nn {n : Nat} {i : Int} (h0 : 0 ≤ i) (h1 : i < n) : ixOf n i = some i.toNat := by unfold ixOf; rw [if_pos h0, if_pos h1]
theorem getD_nth {ds : List Int} {i : Int} (h0 : 0 ≤ i) (h1 : i < ds.length) : (ds.map D.int)[i.toNat]? = some (.int (nth ds i)) := by
  have h : i.toNat < ds.length := by omega
  rw [List.getElem?_map, List.getElem?_eq_getElem h]
  unfold nth
  rw [List.getD_eq_getElem?_getD, List.getElem?_eq_getElem h]
  rfl
theorem oIx_TI {ds : List Int} {i : Int} (h0 : 0 ≤ i) (h1 : i < ds.length) : oIx (TI ds) (.int i) = some (.int (nth ds i)) := by
  show (match ixOf (ds.map D.int).length i with | some j => (ds.map D.int)[j]? | none => none) = _
  rw [List.length_map, ixOf_nn h0 h1]
  exact getD_nth h0 h1
theorem oIx_LI {ds : List Int} {i : Int} (h0 : 0 ≤ i) (h1 : i < ds.length) : oIx (LI ds) (.int i) = some (.int (nth ds i)) := by
  show (match ixOf (ds.map D.int).length i with | some j => (ds.map D.int)[j]? | none => none) = _
  rw [List.length_map, ixOf_nn h0 h1]
  exact getD_nth h0 h1
theorem oEq_int (a b : Int) : oEq (.int a) (.int b) = some (.bl (a == b)) := rfl
theorem oNe_int (a b : Int) : oNe (.int a) (.int b) = some (.bl (!(a == b))) := rfl
theorem oLen_TI (l : List Int) : oLen (TI l) = some (.int l.length) := by simp [oLen]
theorem oLen_LI (l : List Int) : oLen (LI l) = some (.int l.length) := by simp [oLen]
theorem asInts_map (l : List Int) : asInts (l.map .int) = some l := by
  induction l with
  | nil => rfl
  | cons x l ih => rw [List.map_cons]; unfold asInts; rw [ih]

/-! ### pure pieces: what they give -/
abbrev Ev (e : Ex) (s : Sl) (v : D) : Prop := ∀ r, e s r = some (v, r)
abbrev Tv (t : Te) (s : Sl) (k : Bool) : Prop := ∀ r, t s r = some (k, r)
abbrev Av (a : Ar) (s : Sl) (ds : List D) : Prop := ∀ r, a s r = some (ds, r)
abbrev Nx (b : Sm) (s s' : Sl) : Prop := ∀ r, b s r = some (.nx s' r)
abbrev Rt (b : Sm) (s : Sl) (d : D) : Prop := ∀ r, b s r = some (.rt d r)
abbrev Fv (f : Fn) (ds : List D) (d : D) : Prop := ∀ r, f ds r = some (d, r)
section
variable {s s' s1 : Sl} {v x y z : D} {e a b c : Ex} {t u : Te} {as : Ar} {ds xs : List D} {k l : Bool} {m m2 : Sm} {f : Fn} {i : Nat} {g : Tg}
theorem ev_var (h : s[i]? = some (some v) := by rfl) : Ev (eVar i) s v := fun r => by unfold eVar; rw [h]
theorem ev_c : Ev (eC v) s v := fun _ => rfl
theorem ev_un {o : D → Option D} (h : Ev e s x) (ho : o x = some y) : Ev (eUn o e) s y := fun r => by unfold eUn; rw [h r]; dsimp only; rw [ho]
theorem ev_bin {o : D → D → Option D} (ha : Ev a s x) (hb : Ev b s y) (ho : o x y = some z) : Ev (eBin o a b) s z := fun r => by unfold eBin; rw [ha r]; dsimp only; rw [hb r]; dsimp only; rw [ho]
theorem ev_chainT {o o' : D → D → Option D} (ha : Ev a s x) (hb : Ev b s y) (ho : o x y = some (.bl true)) (hc : Ev c s z) (ho' : o' y z = some v) : Ev (eChain o o' a b c) s v := fun r => by
  unfold eChain; rw [ha r]; dsimp only; rw [hb r]; dsimp only; rw [ho]; dsimp only; rw [hc r]; dsimp only; rw [ho']
theorem ev_chainF {o o' : D → D → Option D} (ha : Ev a s x) (hb : Ev b s y) (ho : o x y = some (.bl false)) : Ev (eChain o o' a b c) s (.bl false) := fun r => by
  unfold eChain; rw [ha r]; dsimp only; rw [hb r]; dsimp only; rw [ho]
theorem ev_le2 {i j k : Int} (ha : Ev a s (.int i)) (hb : Ev b s (.int j)) (hc : Ev c s (.int k)) : Ev (eChain oLe oLe a b c) s (.bl (decide (i ≤ j) && decide (j ≤ k))) := by
  by_cases h : i ≤ j
  · rw [decide_eq_true h, Bool.true_and]
    exact ev_chainT ha hb (by show some (D.bl (decide (i ≤ j))) = _; rw [decide_eq_true h]) hc rfl
  · rw [decide_eq_false h, Bool.false_and]
    exact ev_chainF ha hb (by show some (D.bl (decide (i ≤ j))) = _; rw [decide_eq_false h])
theorem ev_and (ha : Ev a s (.bl k)) (hb : k = true → Ev b s (.bl l)) : Ev (eAnd a b) s (.bl (k && l)) := fun r => by
  unfold eAnd; rw [ha r]
  cases k with
  | true => exact hb rfl r
  | false => rfl
theorem ev_or (ha : Ev a s (.bl k)) (hb : k = false → Ev b s (.bl l)) : Ev (eOr a b) s (.bl (k || l)) := fun r => by
  unfold eOr; rw [ha r]
  cases k with
  | true => rfl
  | false => exact hb rfl r
theorem ev_not (ha : Ev a s (.bl k)) : Ev (eNot a) s (.bl (!k)) := fun r => by unfold eNot; rw [ha r]
theorem ev_if (ht : Tv t s k) (ha : k = true → Ev a s v) (hb : k = false → Ev b s v) : Ev (eIf t a b) s v := fun r => by
  unfold eIf; rw [ht r]
  cases k with
  | true => exact ha rfl r
  | false => exact hb rfl r
theorem ev_isN (ha : Ev a s x) : Ev (eIsN a) s (.bl (isNon x)) := fun r => by unfold eIsN; rw [ha r]
theorem ev_notN (ha : Ev a s x) : Ev (eNotN a) s (.bl (!isNon x)) := fun r => by unfold eNotN; rw [ha r]
theorem tv_b (ha : Ev a s (.bl k)) : Tv (tB a) s k := fun r => by unfold tB; rw [ha r]
theorem tv_tr (ha : Ev a s (.tup ds)) : Tv (tTr a) s (!ds.isEmpty) := fun r => by unfold tTr; rw [ha r]
theorem tv_not (h : Tv t s k) : Tv (tNot t) s (!k) := fun r => by unfold tNot; rw [h r]
theorem tv_and (ha : Tv t s k) (hb : k = true → Tv u s l) : Tv (tAnd t u) s (k && l) := fun r => by
  unfold tAnd; rw [ha r]
  cases k with
  | true => exact hb rfl r
  | false => rfl
theorem tv_or (ha : Tv t s k) (hb : k = false → Tv u s l) : Tv (tOr t u) s (k || l) := fun r => by
  unfold tOr; rw [ha r]
  cases k with
  | true => rfl
  | false => exact hb rfl r
theorem tv_yes : Tv tYes s true := fun _ => rfl
theorem av_nil : Av aNil s [] := fun _ => rfl
theorem av_cons (ha : Ev a s x) (h : Av as s xs) : Av (aCons a as) s (x :: xs) := fun r => by unfold aCons; rw [ha r]; dsimp only; rw [h r]
theorem av_star (ha : Ev a s (.tup ds)) (h : Av as s xs) : Av (aStar a as) s (ds ++ xs) := fun r => by unfold aStar; rw [ha r]; dsimp only; rw [h r]
theorem ev_tup (h : Av as s xs) (hl : xs.length ≤ 1000) : Ev (eTup as) s (.tup xs) := fun r => by unfold eTup; rw [h r]; dsimp only; rw [if_pos hl]
theorem ev_lst (h : Av as s xs) (hl : xs.length ≤ 1000) : Ev (eLst as) s (.lst xs) := fun r => by unfold eLst; rw [h r]; dsimp only; rw [if_pos hl]
theorem ev_call (h : Av as s xs) (hf : Fv f xs v) : Ev (eCall f as) s v := fun r => by unfold eCall; rw [h r]; exact hf r
theorem av_seqT (h : Ev a s (.tup ds)) : Av (wSeq a) s ds := fun r => by unfold wSeq; rw [h r]
theorem av_seqL (h : Ev a s (.lst ds)) : Av (wSeq a) s ds := fun r => by unfold wSeq; rw [h r]
theorem av_range {n : Nat} (h : Ev a s (.int (n : Int))) (hn : n ≤ 1000) : Av (wRange a) s ((ran n).map .int) := fun r => by
  unfold wRange; rw [h r]; dsimp only; rw [if_pos (by omega), rng_ran]
/-! statements -/
theorem nx_nil : Nx sNil s s := fun _ => rfl
theorem nx_seq (h1 : Nx m s s1) (h2 : Nx m2 s1 s') : Nx (sSeq m m2) s s' := fun r => by unfold sSeq; rw [h1 r]; exact h2 r
theorem rt_seq (h1 : Nx m s s1) (h2 : Rt m2 s1 v) : Rt (sSeq m m2) s v := fun r => by unfold sSeq; rw [h1 r]; exact h2 r
theorem rt_seq1 (h1 : Rt m s v) : Rt (sSeq m m2) s v := fun r => by unfold sSeq; rw [h1 r]
theorem nx_set (h : Ev e s v) (hs : s.set i (some v) = s' := by rfl) : Nx (sSet i e) s s' := fun r => by unfold sSet; rw [h r]; subst hs; rfl
theorem nx_tgt (h : Ev e s v) (hg : g v s = some s' := by rfl) : Nx (sTgt g e) s s' := fun r => by unfold sTgt; rw [h r]; dsimp only; rw [hg]
theorem nx_par {is : List Nat} (h : Av as s xs) (hg : setAll is xs s = some s' := by rfl) : Nx (sPar is as) s s' := fun r => by unfold sPar; rw [h r]; dsimp only; rw [hg]
theorem nx_ex (h : Ev e s v) : Nx (sEx e) s s := fun r => by unfold sEx; rw [h r]
theorem rt_ret (h : Ev e s v) : Rt (sRet e) s v := fun r => by unfold sRet; rw [h r]
theorem nx_if (h : Tv t s k) (h1 : k = true → Nx m s s') (h2 : k = false → Nx m2 s s') : Nx (sIf t m m2) s s' := fun r => by
  unfold sIf; rw [h r]
  cases k with
  | true => exact h1 rfl r
  | false => exact h2 rfl r
theorem rt_if (h : Tv t s k) (h1 : k = true → Rt m s v) (h2 : k = false → Rt m2 s v) : Rt (sIf t m m2) s v := fun r => by
  unfold sIf; rw [h r]
  cases k with
  | true => exact h1 rfl r
  | false => exact h2 rfl r
theorem nx_app (he : Ev e s v) (hi : s[i]? = some (some (.lst ds)) := by rfl) (hl : ds.length < 1000) (hs : s.set i (some (.lst (ds ++ [v]))) = s' := by rfl) : Nx (sApp i e) s s' := fun r => by
  unfold sApp; rw [hi]; dsimp only; rw [he r]; dsimp only; rw [if_pos hl, hs]
theorem nx_appI {l : List Int} {i0 : Int} (he : Ev e s (.int i0)) (hl : l.length < 1000) (hi : s[i]? = some (some (LI l)) := by rfl) (hs : s.set i (some (LI (l ++ [i0]))) = s' := by rfl) : Nx (sApp i e) s s' :=
  nx_app he hi (by rw [List.length_map]; exact hl) (by rw [← hs]; show _ = s.set i (some (D.lst ((l ++ [i0]).map D.int))); rw [List.map_append]; rfl)
theorem fv_rt {np n : Nat} (h : Rt m (ds.map some ++ List.replicate (n - np) none) v) (hl : ds.length = np := by rfl) : Fv (runFn np n m) ds v := fun r => by unfold runFn; rw [if_pos hl, h r]
theorem fv_nx {np n : Nat} (h : Nx m (ds.map some ++ List.replicate (n - np) none) s') (hl : ds.length = np := by rfl) : Fv (runFn np n m) ds .non := fun r => by unfold runFn; rw [if_pos hl, h r]
end

/-! ### loops -/
section
variable {α A J : Type} {g : Tg} {b : Sm} {enc : α → D} {S : A → J → Sl}
/-- a loop that goes through -/
theorem forL_nx (Inv : A → Prop) (step : A → α → A) : ∀ (xs : List α) (a : A) (j : J), Inv a → (∀ a x j, Inv a → x ∈ xs → Inv (step a x) ∧ ∃ s1 j', g (enc x) (S a j) = some s1 ∧ Nx b s1 (S (step a x) j')) →
    ∃ j', Inv (xs.foldl step a) ∧ ∀ r, forL g b (xs.map enc) (S a j) r = some (.nx (S (xs.foldl step a) j') r)
  | [], a, j, hI, _ => ⟨j, hI, fun _ => rfl⟩
  | x :: xs, a, j, hI, h => by
    obtain ⟨hI1, s1, j1, e1, e2⟩ := h a x j hI List.mem_cons_self
    obtain ⟨j2, hI2, e3⟩ := forL_nx Inv step xs (step a x) j1 hI1 fun a y j hI hy => h a y j hI (List.mem_cons_of_mem _ hy)
    refine ⟨j2, hI2, fun r => ?_⟩
    rw [List.map_cons]
    unfold forL
    rw [e1]
    dsimp only
    rw [e2 r]
    exact e3 r
/-- .. with a count of the turns -/
theorem forL_nxi (Inv : Nat → A → Prop) (step : A → α → A) : ∀ (xs : List α) (i : Nat) (a : A) (j : J), Inv i a → (∀ i' a x j, i' < i + xs.length → Inv i' a → x ∈ xs → Inv (i' + 1) (step a x) ∧ ∃ s1 j', g (enc x) (S a j) = some s1 ∧ Nx b s1 (S (step a x) j')) →
    ∃ j', Inv (i + xs.length) (xs.foldl step a) ∧ ∀ r, forL g b (xs.map enc) (S a j) r = some (.nx (S (xs.foldl step a) j') r)
  | [], i, a, j, hI, _ => ⟨j, hI, fun _ => rfl⟩
  | x :: xs, i, a, j, hI, h => by
    obtain ⟨hI1, s1, j1, e1, e2⟩ := h i a x j (by simp) hI List.mem_cons_self
    obtain ⟨j2, hI2, e3⟩ := forL_nxi Inv step xs (i + 1) (step a x) j1 hI1 fun i' a y j hi hI hy => h i' a y j (by simp at hi ⊢; omega) hI (List.mem_cons_of_mem _ hy)
    refine ⟨j2, by rw [List.length_cons]; have : i + (xs.length + 1) = i + 1 + xs.length := by omega
                   rw [this]; exact hI2, fun r => ?_⟩
    rw [List.map_cons]
    unfold forL
    rw [e1]
    dsimp only
    rw [e2 r]
    exact e3 r
/-- one that may return -/
def foldR (step : A → α → A ⊕ D) : A → List α → A ⊕ D
  | a, [] => .inl a
  | a, x :: xs => match step a x with
    | .inl a1 => foldR step a1 xs
    | .inr d => .inr d
theorem forL_rt (Inv : Nat → A → Prop) (step : A → α → A ⊕ D) : ∀ (xs : List α) (i : Nat) (a : A) (j : J), Inv i a → (∀ i' a x j, i' < i + xs.length → Inv i' a → x ∈ xs → ∃ s1, g (enc x) (S a j) = some s1 ∧ match step a x with
      | .inl a1 => Inv (i' + 1) a1 ∧ ∃ j', Nx b s1 (S a1 j')
      | .inr d => Rt b s1 d) →
    match foldR step a xs with
    | .inl a1 => Inv (i + xs.length) a1 ∧ ∃ j', ∀ r, forL g b (xs.map enc) (S a j) r = some (.nx (S a1 j') r)
    | .inr d => ∀ r, forL g b (xs.map enc) (S a j) r = some (.rt d r)
  | [], i, a, j, hI, _ => ⟨hI, j, fun _ => rfl⟩
  | x :: xs, i, a, j, hI, h => by
    obtain ⟨s1, e1, e2⟩ := h i a x j (by simp) hI List.mem_cons_self
    unfold foldR
    cases q : step a x with
    | inl a1 =>
      rw [q] at e2
      obtain ⟨hI1, j1, e2⟩ := e2
      have ih := forL_rt Inv step xs (i + 1) a1 j1 hI1 fun i' a y j hi hI hy => h i' a y j (by simp at hi ⊢; omega) hI (List.mem_cons_of_mem _ hy)
      dsimp only
      have un : ∀ r, forL g b ((x :: xs).map enc) (S a j) r = forL g b (xs.map enc) (S a1 j1) r := fun r => by
        rw [List.map_cons]
        show (match g (enc x) (S a j) with | none => none | some s1 => match b s1 r with | none => none | some (.nx s2 r2) => forL g b (xs.map enc) s2 r2 | some (.rt v r2) => some (.rt v r2)) = _
        rw [e1]
        dsimp only
        rw [e2 r]
      cases q2 : foldR step a1 xs with
      | inl a2 =>
        rw [q2] at ih
        obtain ⟨hI2, j2, e3⟩ := ih
        have el : i + (x :: xs).length = i + 1 + xs.length := by simp; omega
        exact ⟨by rw [el]; exact hI2, j2, fun r => (un r).trans (e3 r)⟩
      | inr d =>
        rw [q2] at ih
        exact fun r => (un r).trans (ih r)
    | inr d =>
      rw [q] at e2
      intro r
      rw [List.map_cons]
      unfold forL
      rw [e1]
      dsimp only
      rw [e2 r]
end
section
variable {α : Type} {g : Tg} {t : Te} {e : Ex} {enc : α → D} {s : Sl} {st : α → Sl}
theorem compL_map {F : α → D} {p : α → Bool} : ∀ (xs : List α), (∀ x ∈ xs, g (enc x) s = some (st x) ∧ Tv t (st x) (p x) ∧ (p x = true → Ev e (st x) (F x))) → ∀ r, compL g t e s (xs.map enc) r = some ((xs.filter p).map F, r)
  | [], _, r => rfl
  | x :: xs, h, r => by
    obtain ⟨h1, h2, h3⟩ := h x List.mem_cons_self
    have ih := compL_map xs fun y hy => h y (List.mem_cons_of_mem _ hy)
    rw [List.map_cons]
    unfold compL
    rw [h1]
    dsimp only
    rw [h2 r, List.filter_cons]
    cases q : p x with
    | true => dsimp only; rw [h3 q r]; dsimp only; rw [ih r]; rfl
    | false => exact ih r
theorem genAll_map {p : α → Bool} {k : α → Bool} (stop : Bool) : ∀ (xs : List α), (∀ x ∈ xs, g (enc x) s = some (st x) ∧ Tv t (st x) (p x) ∧ (p x = true → Ev e (st x) (.bl (k x)))) → ∀ r, genAll g t e s stop (xs.map enc) r = some (if ((xs.filter p).any fun x => k x == stop) = true then stop else !stop, r)
  | [], _, r => rfl
  | x :: xs, h, r => by
    obtain ⟨h1, h2, h3⟩ := h x List.mem_cons_self
    have ih := genAll_map stop xs fun y hy => h y (List.mem_cons_of_mem _ hy)
    rw [List.map_cons]
    unfold genAll
    rw [h1]
    dsimp only
    rw [h2 r, List.filter_cons]
    cases q : p x with
    | true =>
      dsimp only
      rw [h3 q r]
      dsimp only
      rw [if_pos rfl, List.any_cons]
      by_cases e1 : k x = stop
      · rw [if_pos e1, e1]; simp
      · rw [if_neg e1, ih r]
        have e2 : (k x == stop) = false := by simpa using e1
        rw [e2, Bool.false_or]
    | false => exact ih r
theorem genSum_map {p : α → Bool} {k : α → Int} {B : Nat} (hB : B < 1000000) : ∀ (xs : List α) (n : Int), (∀ x ∈ xs, g (enc x) s = some (st x) ∧ Tv t (st x) (p x) ∧ (p x = true → Ev e (st x) (.int (k x)) ∧ 0 ≤ k x ∧ k x ≤ 1000)) → 0 ≤ n → n + 1000 * xs.length ≤ B →
    ∀ r, genSum g t e s (xs.map enc) n r = some (n + ((xs.filter p).map k).sum, r)
  | [], n, _, _, _, r => by simp [genSum]
  | x :: xs, n, h, hn, hb, r => by
    obtain ⟨h1, h2, h3⟩ := h x List.mem_cons_self
    rw [List.length_cons] at hb
    rw [List.map_cons]
    unfold genSum
    rw [h1]
    dsimp only
    rw [h2 r, List.filter_cons]
    cases q : p x with
    | true =>
      obtain ⟨h4, h5, h6⟩ := h3 q
      dsimp only
      rw [h4 r]
      dsimp only
      rw [if_pos (by omega), genSum_map hB xs (n + k x) (fun y hy => h y (List.mem_cons_of_mem _ hy)) (by omega) (by omega) r, if_pos rfl, List.map_cons, List.sum_cons]
      congr 2
      omega
    | false => exact genSum_map hB xs n (fun y hy => h y (List.mem_cons_of_mem _ hy)) hn (by omega) r
end
section
variable {s : Sl} {vs : List Nat} {w : Ar} {tg : Tg} {t : Te} {e : Ex} {α : Type} {enc : α → D} {xs : List α} {st : α → Sl} {p : α → Bool}
theorem ev_comp {F : α → D} (hw : Av w s (xs.map enc)) (hl : xs.length ≤ 1000) (h : ∀ x ∈ xs, tg (enc x) (wipe s vs) = some (st x) ∧ Tv t (st x) (p x) ∧ (p x = true → Ev e (st x) (F x))) : Ev (eComp vs w tg t e) s (.lst ((xs.filter p).map F)) := fun r => by
  unfold eComp; rw [hw r]; dsimp only; rw [if_pos (by simpa using hl), compL_map xs h r]
theorem ev_comp' {F : α → D} (hw : Av w s (xs.map enc)) (hl : xs.length ≤ 1000) (h : ∀ x ∈ xs, tg (enc x) (wipe s vs) = some (st x) ∧ Ev e (st x) (F x)) : Ev (eComp vs w tg tYes e) s (.lst (xs.map F)) := by
  have z := ev_comp (p := fun _ => true) (t := tYes) hw hl fun x hx => ⟨(h x hx).1, tv_yes, fun _ => (h x hx).2⟩
  rwa [List.filter_eq_self.mpr (fun _ _ => rfl)] at z
theorem any_all (k : α → Bool) : ∀ xs : List α, (if (xs.any fun x => k x == false) = true then false else !false) = xs.all k
  | [] => rfl
  | x :: xs => by
    have ih := any_all k xs
    rw [List.any_cons, List.all_cons, ← ih]
    cases k x <;> rfl
theorem any_any (k : α → Bool) : ∀ xs : List α, (if (xs.any fun x => k x == true) = true then true else !true) = xs.any k
  | [] => rfl
  | x :: xs => by
    have ih := any_any k xs
    rw [List.any_cons, List.any_cons, ← ih]
    cases k x <;> rfl
theorem ev_all {k : α → Bool} (hw : Av w s (xs.map enc)) (h : ∀ x ∈ xs, tg (enc x) (wipe s vs) = some (st x) ∧ Ev e (st x) (.bl (k x))) : Ev (eAll vs w tg tYes e) s (.bl (xs.all k)) := fun r => by
  unfold eAll eGen; rw [hw r]; dsimp only
  rw [genAll_map (p := fun _ => true) false xs (fun x hx => ⟨(h x hx).1, tv_yes, fun _ => (h x hx).2⟩) r]
  dsimp only
  rw [List.filter_eq_self.mpr (fun _ _ => rfl)]
  rw [any_all]
theorem ev_any {k : α → Bool} (hw : Av w s (xs.map enc)) (h : ∀ x ∈ xs, tg (enc x) (wipe s vs) = some (st x) ∧ Ev e (st x) (.bl (k x))) : Ev (eAny vs w tg tYes e) s (.bl (xs.any k)) := fun r => by
  unfold eAny eGen; rw [hw r]; dsimp only
  rw [genAll_map (p := fun _ => true) true xs (fun x hx => ⟨(h x hx).1, tv_yes, fun _ => (h x hx).2⟩) r]
  dsimp only
  rw [List.filter_eq_self.mpr (fun _ _ => rfl)]
  rw [any_any]
theorem ev_sum {k : α → Int} (hw : Av w s (xs.map enc)) (hl : xs.length ≤ 900) (h : ∀ x ∈ xs, tg (enc x) (wipe s vs) = some (st x) ∧ Tv t (st x) (p x) ∧ (p x = true → Ev e (st x) (.int (k x)) ∧ 0 ≤ k x ∧ k x ≤ 1000)) : Ev (eSum vs w tg t e) s (.int ((xs.filter p).map k).sum) := fun r => by
  unfold eSum; rw [hw r]; dsimp only
  rw [genSum_map (B := 900000) (by decide) xs 0 h (by omega) (by omega) r]
  dsimp only
  rw [Int.zero_add]
theorem nx_for {A J : Type} {g : Tg} {b : Sm} {S : A → J → Sl} (Inv : A → Prop) (step : A → α → A) {a : A} {j : J} (hw : Av w (S a j) (xs.map enc)) (hI : Inv a) (h : ∀ a x j, Inv a → x ∈ xs → Inv (step a x) ∧ ∃ s1 j', g (enc x) (S a j) = some s1 ∧ Nx b s1 (S (step a x) j')) :
    Inv (xs.foldl step a) ∧ ∃ j', Nx (sFor g w b) (S a j) (S (xs.foldl step a) j') := by
  obtain ⟨j', hI', e⟩ := forL_nx Inv step xs a j hI h
  exact ⟨hI', j', fun r => by unfold sFor; rw [hw r]; exact e r⟩
theorem nx_fori {A J : Type} {g : Tg} {b : Sm} {S : A → J → Sl} (Inv : Nat → A → Prop) (step : A → α → A) {a : A} {j : J} (hw : Av w (S a j) (xs.map enc)) (hI : Inv 0 a) (h : ∀ i a x j, i < xs.length → Inv i a → x ∈ xs → Inv (i + 1) (step a x) ∧ ∃ s1 j', g (enc x) (S a j) = some s1 ∧ Nx b s1 (S (step a x) j')) :
    Inv xs.length (xs.foldl step a) ∧ ∃ j', Nx (sFor g w b) (S a j) (S (xs.foldl step a) j') := by
  obtain ⟨j', hI', e⟩ := forL_nxi Inv step xs 0 a j hI fun i' a x j hi => h i' a x j (by omega)
  exact ⟨by rw [Nat.zero_add] at hI'; exact hI', j', fun r => by unfold sFor; rw [hw r]; exact e r⟩
theorem for_rt {A J : Type} {g : Tg} {b : Sm} {S : A → J → Sl} (Inv : Nat → A → Prop) (step : A → α → A ⊕ D) {a : A} {j : J} (hw : Av w (S a j) (xs.map enc)) (hI : Inv 0 a)
    (h : ∀ i a x j, i < xs.length → Inv i a → x ∈ xs → ∃ s1, g (enc x) (S a j) = some s1 ∧ match step a x with
      | .inl a1 => Inv (i + 1) a1 ∧ ∃ j', Nx b s1 (S a1 j')
      | .inr d => Rt b s1 d) :
    match foldR step a xs with
    | .inl a1 => Inv xs.length a1 ∧ ∃ j', Nx (sFor g w b) (S a j) (S a1 j')
    | .inr d => Rt (sFor g w b) (S a j) d := by
  have z := forL_rt Inv step xs 0 a j hI fun i' a x j hi => h i' a x j (by omega)
  cases q : foldR step a xs with
  | inl a1 =>
    rw [q] at z
    obtain ⟨hI', j', e⟩ := z
    exact ⟨by rw [Nat.zero_add] at hI'; exact hI', j', fun r => by unfold sFor; rw [hw r]; exact e r⟩
  | inr d =>
    rw [q] at z
    exact fun r => by unfold sFor; rw [hw r]; exact z r
end
end PL
end
section
set_option Elab.async false
set_option autoImplicit false
set_option linter.all false
set_option maxRecDepth 100000
set_option maxHeartbeats 1000000
/-! L2: chains, holders, traces: what the defs compute. -/
namespace PL
/-- deputies of n people -/
structure Val (n : Nat) (ds : List Int) : Prop where
  len : ds.length = n
  rng : ∀ d ∈ ds, -1 ≤ d ∧ d < n
theorem Val.nth {n : Nat} {ds : List Int} (V : Val n ds) {i : Int} (h0 : 0 ≤ i) (h1 : i < n) : -1 ≤ nth ds i ∧ nth ds i < n := by
  have hl := V.len
  have h : i.toNat < ds.length := by omega
  unfold PL.nth
  rw [List.getD_eq_getElem?_getD, List.getElem?_eq_getElem h]
  exact V.rng _ (List.getElem_mem h)
/-! ### chains -/
def chainE (ds : List Int) : Nat → Int → List Int → Option (List Int)
  | 0, _, _ => none
  | k + 1, here, found => if (here == -1 || has found here) = true then some found else chainE ds k (nth ds here) (found ++ [here])
def chain (ds : List Int) (p : Int) : List Int := (chainE ds (ds.length + 2) p []).getD []
/-- every walk ends -/
def Stops (n : Nat) (ds : List Int) : Prop := ∀ p ∈ ran n, (chainE ds (n + 2) p []).isSome = true
theorem Stops.eq {n : Nat} {ds : List Int} (S : Stops n ds) (V : Val n ds) {p : Int} (hp : p ∈ ran n) : chainE ds (n + 2) p [] = some (chain ds p) := by
  have h := S p hp
  unfold chain
  rw [V.len]
  cases q : chainE ds (n + 2) p [] with
  | none => rw [q] at h; cases h
  | some x => rfl
theorem chainE_stops {n : Nat} {ds : List Int} (V : Val n ds) : ∀ (k : Nat) (here : Int) (found : List Int), -1 ≤ here → here < n → found.Nodup → (∀ x ∈ found, x ∈ ran n) → n + 2 ≤ found.length + k → (chainE ds k here found).isSome = true
  | 0, here, found, _, _, nd, hf, hk => by
    have := nd.length_le_of_subset (l₂ := ran n) hf
    rw [ran_length] at this
    omega
  | k + 1, here, found, h1, h2, nd, hf, hk => by
    unfold chainE
    split
    · rfl
    · rename_i q
      have hne : here ≠ -1 := fun e => by subst e; simp at q
      have hv := V.nth (i := here) (by omega) h2
      have hh : has found here = false := by
        cases z : has found here with
        | false => rfl
        | true => rw [z] at q; simp at q
      refine chainE_stops V k _ _ hv.1 hv.2 ?_ (fun x hx => ?_) (by rw [List.length_append, List.length_singleton]; omega)
      · refine List.nodup_append.mpr ⟨nd, by simp, fun a ha b hb e => ?_⟩
        have : b = here := by simpa using hb
        subst this
        subst e
        exact has_false.mp hh ha
      · rcases List.mem_append.mp hx with z | z
        · exact hf x z
        · have : x = here := by simpa using z
          subst this; exact mem_ran.mpr ⟨by omega, h2⟩
theorem stops_of {n : Nat} {ds : List Int} (V : Val n ds) : Stops n ds := fun p hp => by
  obtain ⟨h1, h2⟩ := mem_ran.mp hp
  exact chainE_stops V _ _ _ (by omega) h2 List.nodup_nil (fun _ h => by cases h) (by simp)
theorem while_chain {n : Nat} {ds : List Int} (V : Val n ds) {p : D} : ∀ (k : Nat) (here : Int) (found f : List Int), -1 ≤ here → here < n → found.length + k ≤ 900 → chainE ds k here found = some f → ∃ h', ∀ r,
    whileL (tAnd (tB (eBin oNe (eVar 3) (eUn oNeg (eC (.int 1))))) (tB (eBin oNotIn (eVar 3) (eVar 2)))) (sSeq (sApp 2 (eVar 3)) (sSeq (sSet 3 (eBin oIx (eVar 0) (eVar 3))) sNil)) k [some (TI ds), some p, some (LI found), some (.int here)] r =
      some (.nx [some (TI ds), some p, some (LI f), some (.int h')] r)
  | 0, _, _, _, _, _, _, h => by cases h
  | k + 1, here, found, f, h1, h2, hl, h => by
    have tv : Tv (tAnd (tB (eBin oNe (eVar 3) (eUn oNeg (eC (.int 1))))) (tB (eBin oNotIn (eVar 3) (eVar 2)))) [some (TI ds), some p, some (LI found), some (.int here)] (!(here == -1) && !has found here) :=
      tv_and (tv_b (ev_bin (ev_var rfl) (ev_un ev_c rfl) (oNe_int _ _))) fun _ => tv_b (ev_bin (ev_var rfl) (ev_var rfl) (oNotIn_LI _ _))
    unfold chainE at h
    have hb : (!(here == -1) && !has found here) = !(here == -1 || has found here) := by simp [Bool.not_or]
    rw [hb] at tv
    cases q : (here == -1 || has found here) with
    | true =>
      rw [q] at h tv
      cases h
      refine ⟨here, fun r => ?_⟩
      unfold whileL
      rw [tv r]
      rfl
    | false =>
      rw [q] at h tv
      have hne : here ≠ -1 := fun e => by subst e; simp at q
      have h0 : 0 ≤ here := by omega
      have hv := V.nth h0 h2
      obtain ⟨h', e⟩ := while_chain V (p := p) k (PL.nth ds here) (found ++ [here]) f hv.1 hv.2 (by rw [List.length_append, List.length_singleton]; omega) h
      refine ⟨h', fun r => ?_⟩
      have nx : Nx (sSeq (sApp 2 (eVar 3)) (sSeq (sSet 3 (eBin oIx (eVar 0) (eVar 3))) sNil)) [some (TI ds), some p, some (LI found), some (.int here)] [some (TI ds), some p, some (LI (found ++ [here])), some (.int (PL.nth ds here))] :=
        nx_seq (nx_appI (l := found) (ev_var rfl) (by omega)) (nx_seq (nx_set (ev_bin (ev_var rfl) (ev_var rfl) (oIx_TI h0 (by rw [V.len]; exact h2)))) nx_nil)
      have tv' : Tv _ _ true := tv
      unfold whileL
      rw [tv' r]
      dsimp only
      rw [nx r]
      exact e r
theorem fv_chain {n : Nat} {ds : List Int} (V : Val n ds) (S : Stops n ds) (hn : n ≤ 800) {p : Int} (hp : p ∈ ran n) : Fv F_chain_of [TI ds, .int p] (LI (chain ds p)) := by
  obtain ⟨h1, h2⟩ := mem_ran.mp hp
  obtain ⟨h', e⟩ := while_chain V (p := .int p) (n + 2) p [] _ (by omega) h2 (by show 0 + (n + 2) ≤ 900; omega) (S.eq V hp)
  refine fv_rt (rt_seq (nx_par (av_cons (ev_lst av_nil (by decide)) (av_cons (ev_var rfl) av_nil))) (rt_seq (s1 := [some (TI ds), some (.int p), some (LI (chain ds p)), some (.int h')]) (fun r => ?_) (rt_seq1 (rt_ret (ev_var rfl)))))
  unfold sWhile
  have ef : fuelOf [some (TI ds), some (.int p), some (LI []), some (.int p)] 0 = n + 2 := by
    show (ds.map D.int).length + 2 = _
    rw [List.length_map, V.len]
  show whileL _ _ (fuelOf [some (TI ds), some (.int p), some (LI []), some (.int p)] 0) _ r = _
  rw [ef]
  exact e r
theorem chainE_mem {n : Nat} {ds : List Int} (V : Val n ds) : ∀ (k : Nat) (here : Int) (found f : List Int), -1 ≤ here → here < n → (∀ x ∈ found, x ∈ ran n) → chainE ds k here found = some f → ∀ x ∈ f, x ∈ ran n
  | 0, _, _, _, _, _, _, h => by cases h
  | k + 1, here, found, f, h1, h2, hf, h => by
    unfold chainE at h
    split at h
    · cases h; exact hf
    · rename_i q
      have hne : here ≠ -1 := fun e => by subst e; simp at q
      have hv := V.nth (i := here) (by omega) h2
      exact chainE_mem V k _ _ f hv.1 hv.2 (fun x hx => by
        rcases List.mem_append.mp hx with z | z
        · exact hf x z
        · have : x = here := by simpa using z
          subst this; exact mem_ran.mpr ⟨by omega, h2⟩) h
theorem chain_mem {n : Nat} {ds : List Int} (V : Val n ds) (S : Stops n ds) {p : Int} (hp : p ∈ ran n) : ∀ x ∈ chain ds p, x ∈ ran n := by
  obtain ⟨h1, h2⟩ := mem_ran.mp hp
  exact chainE_mem V _ _ _ _ (by omega) h2 (fun _ h => by cases h) (S.eq V hp)
/-! ### holders -/
def holder (ds gone : List Int) (p : Int) : Int := ((chain ds p).find? fun c => !has gone c).getD (-1)
theorem holder_rng {n : Nat} {ds : List Int} (V : Val n ds) (S : Stops n ds) (gone : List Int) {p : Int} (hp : p ∈ ran n) : -1 ≤ holder ds gone p ∧ holder ds gone p < n := by
  unfold holder
  cases q : (chain ds p).find? fun c => !has gone c with
  | none => simp; omega
  | some c =>
    have := mem_ran.mp (chain_mem V S hp c (List.mem_of_find?_eq_some q))
    simp; omega
theorem fv_holder {n : Nat} {ds gone : List Int} (V : Val n ds) (S : Stops n ds) (hn : n ≤ 800) {p : Int} (hp : p ∈ ran n) : Fv F_holder_of [TI ds, TI gone, .int p] (.int (holder ds gone p)) := by
  refine fv_rt ?_
  have L := for_rt (g := gVar 3) (b := (sSeq (sIf (tB (eBin oNotIn (eVar 3) (eVar 1))) (sSeq (sRet (eVar 3)) sNil) sNil) sNil)) (w := wSeq (eCall F_chain_of (aCons (eVar 0) (aCons (eVar 2) aNil)))) (enc := D.int) (xs := chain ds p)
    (S := fun (_ : Unit) (j : Option D) => [some (TI ds), some (TI gone), some (.int p), j]) (fun _ _ => True) (fun _ c => if (!has gone c) = true then .inr (.int c) else .inl ()) (a := ()) (j := none)
    (av_seqL (ev_call (av_cons (ev_var rfl) (av_cons (ev_var rfl) av_nil)) (fv_chain V S hn hp))) trivial fun _ _ c j _ _ hc => by
      refine ⟨[some (TI ds), some (TI gone), some (.int p), some (.int c)], rfl, ?_⟩
      have tv : Tv (tB (eBin oNotIn (eVar 3) (eVar 1))) [some (TI ds), some (TI gone), some (.int p), some (.int c)] (!has gone c) := tv_b (ev_bin (ev_var rfl) (ev_var rfl) (oNotIn_TI _ _))
      cases q : (!has gone c) with
      | true =>
        rw [q] at tv
        exact rt_seq1 (rt_if tv (fun _ => rt_seq1 (rt_ret (ev_var rfl))) fun z => by cases z)
      | false =>
        rw [q] at tv
        exact ⟨trivial, some (.int c), nx_seq (nx_if tv (fun z => by cases z) fun _ => nx_nil) nx_nil⟩
  have key : ∀ xs : List Int, foldR (fun (_ : Unit) c => if (!has gone c) = true then (.inr (D.int c) : Unit ⊕ D) else .inl ()) () xs = match xs.find? fun c => !has gone c with | some c => .inr (.int c) | none => .inl () := by
    intro xs
    induction xs with
    | nil => rfl
    | cons x xs ih =>
      unfold foldR
      rw [List.find?_cons]
      cases q : (!has gone x) with
      | true => rfl
      | false => exact ih
  rw [key] at L
  unfold holder
  cases q : (chain ds p).find? fun c => !has gone c with
  | some c =>
    rw [q] at L
    exact rt_seq1 L
  | none =>
    rw [q] at L
    obtain ⟨_, j', L⟩ := L
    exact rt_seq L (rt_seq1 (rt_ret (ev_un ev_c rfl)))
def holders (ds gone : List Int) : List Int := (ran ds.length).map (holder ds gone)
theorem fv_holders {n : Nat} {ds gone : List Int} (V : Val n ds) (S : Stops n ds) (hn : n ≤ 800) : Fv F_all_holders [TI ds, TI gone] (LI (holders ds gone)) := by
  refine fv_rt (rt_seq1 (rt_ret ?_))
  have e : LI (holders ds gone) = .lst ((ran n).map fun p => D.int (holder ds gone p)) := by
    unfold holders LI
    rw [V.len, List.map_map]
    rfl
  rw [e]
  exact ev_comp' (st := fun p => [some (TI ds), some (TI gone), some (.int p)]) (av_range (n := n) (ev_un (ev_var rfl) (by rw [oLen_TI, V.len])) (by omega)) (by rw [ran_length]; omega) fun p hp => ⟨rfl, ev_call (av_cons (ev_var rfl) (av_cons (ev_var rfl) (av_cons (ev_var rfl) av_nil))) (fv_holder V S hn hp)⟩
/-- the law's holder -/
def holdL (ds gone : List Int) : Nat → Int → List Int → Int
  | 0, _, _ => -1
  | k + 1, here, seen => if (here == -1 || has seen here) = true then -1 else if (!has gone here) = true then here else holdL ds gone k (nth ds here) (seen ++ [here])
theorem chainE_pre (ds : List Int) : ∀ (k : Nat) (here : Int) (found f : List Int), chainE ds k here found = some f → ∃ rest, f = found ++ rest
  | 0, _, _, _, h => by cases h
  | k + 1, here, found, f, h => by
    unfold chainE at h
    split at h
    · cases h; exact ⟨[], by simp⟩
    · obtain ⟨rest, e⟩ := chainE_pre ds k _ _ f h
      exact ⟨here :: rest, by rw [e]; simp⟩
theorem find_gone {gone : List Int} : ∀ {found : List Int}, (∀ c ∈ found, has gone c = true) → ∀ rest : List Int, (found ++ rest).find? (fun c => !has gone c) = rest.find? fun c => !has gone c
  | [], _, _ => rfl
  | x :: xs, h, rest => by
    rw [List.cons_append, List.find?_cons, h x List.mem_cons_self]
    exact find_gone (fun c hc => h c (List.mem_cons_of_mem _ hc)) rest
theorem holdL_chain (ds gone : List Int) : ∀ (k : Nat) (here : Int) (found f : List Int), chainE ds (k + 1) here found = some f → (∀ c ∈ found, has gone c = true) → (f.find? fun c => !has gone c).getD (-1) = holdL ds gone k here found
  | 0, here, found, f, h, hg => by
    unfold chainE at h
    split at h
    · cases h
      have := find_gone hg []
      rw [List.append_nil] at this
      rw [this]
      rfl
    · cases h
  | k + 1, here, found, f, h, hg => by
    unfold chainE at h
    unfold holdL
    split at h
    · rename_i q
      cases h
      have := find_gone hg []
      rw [List.append_nil] at this
      rw [this, if_pos q]
      rfl
    · rename_i q
      rw [if_neg q]
      by_cases g : (!has gone here) = true
      · rw [if_pos g]
        obtain ⟨rest, e⟩ := chainE_pre ds _ _ _ f h
        rw [e, List.append_assoc, find_gone hg, List.cons_append, List.find?_cons, g]
        rfl
      · rw [if_neg g]
        refine holdL_chain ds gone k _ _ f h fun c hc => ?_
        rcases List.mem_append.mp hc with z | z
        · exact hg c z
        · have : c = here := by simpa using z
          subst this
          simpa using g
theorem holdL_eq {n : Nat} {ds gone : List Int} (V : Val n ds) (S : Stops n ds) {p : Int} (hp : p ∈ ran n) : holdL ds gone (n + 1) p [] = holder ds gone p := by
  unfold holder
  exact (holdL_chain ds gone (n + 1) p [] _ (S.eq V hp) (fun _ h => by cases h)).symm
/-- a turn of the law's holder -/
def holdS (ds gone : List Int) : Int × List Int → Int → (Int × List Int) ⊕ D := fun a _ => if (a.1 == -1 || has a.2 a.1) = true then .inr (.int (-1)) else if (!has gone a.1) = true then .inr (.int a.1) else .inl (nth ds a.1, a.2 ++ [a.1])
theorem holdS_fold (ds gone : List Int) : ∀ (xs : List Int) (a : Int × List Int), (match foldR (holdS ds gone) a xs with | .inr d => d | .inl _ => .int (-1)) = .int (holdL ds gone xs.length a.1 a.2)
  | [], a => rfl
  | x :: xs, a => by
    unfold foldR
    rw [List.length_cons]
    unfold holdL
    have hs : holdS ds gone a x = if (a.1 == -1 || has a.2 a.1) = true then .inr (.int (-1)) else if (!has gone a.1) = true then .inr (.int a.1) else .inl (nth ds a.1, a.2 ++ [a.1]) := rfl
    rw [hs]
    by_cases q : (a.1 == -1 || has a.2 a.1) = true
    · rw [if_pos q, if_pos q]
    · rw [if_neg q, if_neg q]
      by_cases g : (!has gone a.1) = true
      · rw [if_pos g, if_pos g]
      · rw [if_neg g, if_neg g]
        exact holdS_fold ds gone xs _
theorem fv_lholder {n : Nat} {ds gone : List Int} (V : Val n ds) (S : Stops n ds) (hn : n ≤ 800) {p : Int} (hp : p ∈ ran n) : Fv F_law_holder [TI ds, TI gone, .int p] (.int (holder ds gone p)) := by
  obtain ⟨p1, p2⟩ := mem_ran.mp hp
  refine fv_rt (rt_seq (nx_par (av_cons (ev_var rfl) (av_cons (ev_lst av_nil (by decide)) av_nil))) ?_)
  have L := for_rt (g := gVar 5) (b := (sSeq (sIf (tOr (tB (eBin oEq (eVar 3) (eUn oNeg (eC (.int 1))))) (tB (eBin oIn (eVar 3) (eVar 4)))) (sSeq (sRet (eUn oNeg (eC (.int 1)))) sNil) sNil) (sSeq (sIf (tB (eBin oNotIn (eVar 3) (eVar 1))) (sSeq (sRet (eVar 3)) sNil) sNil) (sSeq (sApp 4 (eVar 3)) (sSeq (sSet 3 (eBin oIx (eVar 0) (eVar 3))) sNil)))))
    (w := wRange (eBin oAdd (eUn oLen (eVar 0)) (eC (.int 1)))) (enc := D.int) (xs := ran (n + 1)) (S := fun (a : Int × List Int) (j : Option D) => [some (TI ds), some (TI gone), some (.int p), some (.int a.1), some (LI a.2), j])
    (fun i a => -1 ≤ a.1 ∧ a.1 < n ∧ a.2.length ≤ i) (holdS ds gone) (a := (p, [])) (j := none)
    (av_range (n := n + 1) (ev_bin (ev_un (ev_var rfl) (oLen_TI _)) ev_c (by rw [V.len]; rfl)) (by omega)) ⟨by show -1 ≤ p; omega, p2, Nat.le_refl _⟩ fun i a x j hi hI hx => by
      obtain ⟨here, seen⟩ := a
      obtain ⟨h1, h2, h3⟩ := hI
      rw [ran_length] at hi
      have h1 : -1 ≤ here := h1
      have h2 : here < n := h2
      have h3 : seen.length ≤ i := h3
      refine ⟨[some (TI ds), some (TI gone), some (.int p), some (.int here), some (LI seen), some (.int x)], rfl, ?_⟩
      have t1 : Tv (tOr (tB (eBin oEq (eVar 3) (eUn oNeg (eC (.int 1))))) (tB (eBin oIn (eVar 3) (eVar 4)))) [some (TI ds), some (TI gone), some (.int p), some (.int here), some (LI seen), some (.int x)] (here == -1 || has seen here) :=
        tv_or (tv_b (ev_bin (ev_var rfl) (ev_un ev_c rfl) (oEq_int _ _))) fun _ => tv_b (ev_bin (ev_var rfl) (ev_var rfl) (oIn_LI _ _))
      have t2 : Tv (tB (eBin oNotIn (eVar 3) (eVar 1))) [some (TI ds), some (TI gone), some (.int p), some (.int here), some (LI seen), some (.int x)] (!has gone here) := tv_b (ev_bin (ev_var rfl) (ev_var rfl) (oNotIn_TI _ _))
      unfold holdS
      dsimp only
      by_cases q : (here == -1 || has seen here) = true
      · rw [if_pos q]
        rw [q] at t1
        exact rt_seq1 (rt_if t1 (fun _ => rt_seq1 (rt_ret (ev_un ev_c rfl))) fun z => by cases z)
      · rw [if_neg q]
        have q' : (here == -1 || has seen here) = false := by simpa using q
        rw [q'] at t1
        have n1 := nx_if (m := (sSeq (sRet (eUn oNeg (eC (.int 1)))) sNil)) t1 (fun z => by cases z) fun _ => nx_nil
        by_cases g : (!has gone here) = true
        · rw [if_pos g]
          rw [g] at t2
          exact rt_seq n1 (rt_seq1 (rt_if t2 (fun _ => rt_seq1 (rt_ret (ev_var rfl))) fun z => by cases z))
        · rw [if_neg g]
          have g' : (!has gone here) = false := by simpa using g
          rw [g'] at t2
          have hne : here ≠ -1 := fun e => by subst e; simp at q
          have hv := V.nth (i := here) (by omega) h2
          refine ⟨⟨hv.1, hv.2, by simp; omega⟩, some (.int x), nx_seq n1 (nx_seq (nx_if t2 (fun z => by cases z) fun _ => nx_nil) (nx_seq (nx_appI (l := seen) (ev_var rfl) (by omega)) (nx_seq (nx_set (ev_bin (ev_var rfl) (ev_var rfl) (oIx_TI (by omega) (by rw [V.len]; exact h2)))) nx_nil)))⟩
  have K := holdS_fold ds gone (ran (n + 1)) (p, [])
  rw [ran_length, holdL_eq V S hp] at K
  cases q : foldR (holdS ds gone) (p, []) (ran (n + 1)) with
  | inl a =>
    rw [q] at L K
    obtain ⟨_, j', L⟩ := L
    rw [← K]
    exact rt_seq L (rt_seq1 (rt_ret (ev_un ev_c rfl)))
  | inr d =>
    rw [q] at L K
    rw [← K]
    exact rt_seq1 L
end PL
end
section
set_option Elab.async false
set_option autoImplicit false
set_option linter.all false
set_option maxRecDepth 100000
set_option maxHeartbeats 1000000
/-! L3: traces, what is handed. -/
namespace PL
def lastI (a : List Int) : Int := a.getLast?.getD 0
theorem oIx_last {a : List Int} (h : a ≠ []) : oIx (LI a) (.int (-1)) = some (.int (lastI a)) := by
  show (match ixOf (a.map D.int).length (-1) with | some j => (a.map D.int)[j]? | none => none) = _
  have hl : 0 < a.length := List.length_pos_iff.mpr h
  have e : ixOf (a.map D.int).length (-1) = some (a.length - 1) := by
    unfold ixOf
    rw [List.length_map, if_neg (by decide), if_pos (by omega)]
    congr 1
    omega
  rw [e]
  show (a.map D.int)[a.length - 1]? = _
  rw [List.getElem?_map]
  unfold lastI
  rw [List.getLast?_eq_getElem?]
  rw [List.getElem?_eq_getElem (by omega)]
  rfl
theorem oTo_TI {l : List Int} {k : Int} (h : 0 ≤ k) : oTo (TI l) (.int k) = some (TI (l.take k.toNat)) := by
  show (if 0 ≤ k then some (D.tup ((l.map D.int).take k.toNat)) else if k = -1 then some (D.tup ((l.map D.int).take ((l.map D.int).length - 1))) else none) = _
  rw [if_pos h, ← List.map_take]
theorem oAdd_int (a b : Int) : oAdd (.int a) (.int b) = some (.int (a + b)) := rfl
theorem oSub_int (a b : Int) : oSub (.int a) (.int b) = some (.int (a - b)) := rfl
theorem toD_TI (l : List Int) : oTuple (LI l) = some (TI l) := rfl
theorem oSum_LI (l : List Int) : oSum (LI l) = some (.int l.sum) := by show (match asInts (l.map D.int) with | some is => some (D.int is.sum) | none => none) = _; rw [asInts_map]
theorem oSum_TI (l : List Int) : oSum (TI l) = some (.int l.sum) := by show (match asInts (l.map D.int) with | some is => some (D.int is.sum) | none => none) = _; rw [asInts_map]
/-! ### the law's trace -/
def stepD (a : List Int) (h : Int) : List Int := if (!(h == lastI a)) = true then a ++ [h] else a
def traceL (ds order : List Int) (p : Int) : List Int := (ran order.length).foldl (fun a k => stepD a (holder ds (order.take (k + 1).toNat) p)) [p]
theorem fv_lhanded {n : Nat} {ds order : List Int} (V : Val n ds) (hn : n ≤ 800) (ho : order.length ≤ 800) {p : Int} (hp : p ∈ ran n) : Fv F_law_handed [TI ds, TI order, .int p] (LI (traceL ds order p)) := by
  obtain ⟨p1, p2⟩ := mem_ran.mp hp
  have S := stops_of V
  refine fv_rt (rt_seq (nx_set (ev_lst (av_cons (ev_var rfl) av_nil) (by simp))) ?_)
  obtain ⟨_, j', L⟩ := nx_fori (g := gVar 4) (b := (sSeq (sSet 5 (eCall F_law_holder (aCons (eVar 0) (aCons (eBin oTo (eVar 1) (eBin oAdd (eVar 4) (eC (.int 1)))) (aCons (eVar 2) aNil))))) (sSeq (sIf (tB (eBin oNe (eVar 5) (eBin oIx (eVar 3) (eUn oNeg (eC (.int 1)))))) (sSeq (sApp 3 (eVar 5)) sNil) sNil) sNil)))
    (w := wRange (eUn oLen (eVar 1))) (enc := D.int) (xs := ran order.length) (S := fun (a : List Int) (j : Option D × Option D) => [some (TI ds), some (TI order), some (.int p), some (LI a), j.1, j.2])
    (fun i a => a ≠ [] ∧ a.length ≤ i + 1) (fun a k => stepD a (holder ds (order.take (k + 1).toNat) p)) (a := [p]) (j := (none, none)) (av_range (ev_un (ev_var rfl) (oLen_TI _)) (by omega)) ⟨by simp, by simp⟩ fun i a x j hi hI hx => by
      obtain ⟨h1, h2⟩ := hI
      obtain ⟨x1, x2⟩ := mem_ran.mp hx
      rw [ran_length] at hi
      generalize hh : holder ds (order.take (x + 1).toNat) p = h
      have n1 : Nx (sSet 5 (eCall F_law_holder (aCons (eVar 0) (aCons (eBin oTo (eVar 1) (eBin oAdd (eVar 4) (eC (.int 1)))) (aCons (eVar 2) aNil))))) [some (TI ds), some (TI order), some (.int p), some (LI a), some (.int x), j.2] [some (TI ds), some (TI order), some (.int p), some (LI a), some (.int x), some (.int h)] := by
        rw [← hh]
        exact nx_set (ev_call (av_cons (ev_var rfl) (av_cons (ev_bin (ev_var rfl) (ev_bin (ev_var rfl) ev_c (oAdd_int _ _)) (oTo_TI (by omega))) (av_cons (ev_var rfl) av_nil))) (fv_lholder V S hn hp))
      have tv : Tv (tB (eBin oNe (eVar 5) (eBin oIx (eVar 3) (eUn oNeg (eC (.int 1)))))) [some (TI ds), some (TI order), some (.int p), some (LI a), some (.int x), some (.int h)] (!(h == lastI a)) :=
        tv_b (ev_bin (ev_var rfl) (ev_bin (ev_var rfl) (ev_un ev_c rfl) (oIx_last h1)) (oNe_int _ _))
      unfold stepD
      refine ⟨?_, _, (some (.int x), some (.int h)), rfl, nx_seq n1 (nx_seq (nx_if tv (fun q => ?_) fun q => ?_) nx_nil)⟩
      · split
        · exact ⟨by simp, by simp; omega⟩
        · exact ⟨h1, by omega⟩
      · rw [if_pos q]
        exact nx_seq (nx_appI (l := a) (ev_var rfl) (by omega)) nx_nil
      · rw [if_neg (by rw [q]; decide)]
        exact nx_nil
  exact rt_seq L (rt_seq1 (rt_ret (ev_var rfl)))
/-! ### the program's -/
def stepH (a : List Int) (h : Int) : List Int := if (!has a h) = true then a ++ [h] else a
def traceH (ds order : List Int) (p : Int) : List Int := (ran (order.length + 1)).foldl (fun a k => stepH a (holder ds (order.take k.toNat) p)) []
theorem fv_stages {n : Nat} {ds order : List Int} (V : Val n ds) (hn : n ≤ 800) (ho : order.length ≤ 800) : Fv F_stages [TI ds, TI order] (.lst ((ran (order.length + 1)).map fun k => LI (holders ds (order.take k.toNat)))) := by
  refine fv_rt (rt_seq1 (rt_ret (ev_comp' (st := fun k => [some (TI ds), some (TI order), some (.int k)]) (av_range (n := order.length + 1) (ev_bin (ev_un (ev_var rfl) (oLen_TI _)) ev_c rfl) (by omega)) (by rw [ran_length]; omega) fun k hk => ⟨rfl, ?_⟩)))
  exact ev_call (av_cons (ev_var rfl) (av_cons (ev_bin (ev_var rfl) (ev_var rfl) (oTo_TI (mem_ran.mp hk).1)) av_nil)) (fv_holders V (stops_of V) hn)
theorem nth_holders {n : Nat} {ds gone : List Int} (V : Val n ds) {p : Int} (hp : p ∈ ran n) : oIx (LI (holders ds gone)) (.int p) = some (.int (holder ds gone p)) := by
  obtain ⟨p1, p2⟩ := mem_ran.mp hp
  have hl : (holders ds gone).length = n := by unfold holders; rw [List.length_map, ran_length, V.len]
  rw [oIx_LI p1 (by rw [hl]; exact p2)]
  congr 2
  unfold nth holders ran
  rw [List.getD_eq_getElem?_getD, List.getElem?_map, List.getElem?_map, List.getElem?_range (by rw [V.len]; omega)]
  simp
  congr 1
  omega
theorem fv_handings {n : Nat} {ds order : List Int} (V : Val n ds) (hn : n ≤ 800) (ho : order.length ≤ 800) {p : Int} (hp : p ∈ ran n) : Fv F_handings_of [TI ds, TI order, .int p] (LI (traceH ds order p)) := by
  refine fv_rt (rt_seq (nx_set (ev_lst av_nil (by decide))) ?_)
  obtain ⟨_, j', L⟩ := nx_fori (g := gVar 4) (b := (sSeq (sIf (tB (eBin oNotIn (eBin oIx (eVar 4) (eVar 2)) (eVar 3))) (sSeq (sApp 3 (eBin oIx (eVar 4) (eVar 2))) sNil) sNil) sNil))
    (w := wSeq (eCall F_stages (aCons (eVar 0) (aCons (eVar 1) aNil)))) (enc := fun k : Int => LI (holders ds (order.take k.toNat))) (xs := ran (order.length + 1)) (S := fun (a : List Int) (j : Option D) => [some (TI ds), some (TI order), some (.int p), some (LI a), j])
    (fun i a => a.length ≤ i) (fun a k => stepH a (holder ds (order.take k.toNat) p)) (a := []) (j := none) (av_seqL (ev_call (av_cons (ev_var rfl) (av_cons (ev_var rfl) av_nil)) (fv_stages V hn ho))) (Nat.le_refl _) fun i a x j hi hI hx => by
      rw [ran_length] at hi
      have ix : Ev (eBin oIx (eVar 4) (eVar 2)) [some (TI ds), some (TI order), some (.int p), some (LI a), some (LI (holders ds (order.take x.toNat)))] (.int (holder ds (order.take x.toNat) p)) := ev_bin (ev_var rfl) (ev_var rfl) (nth_holders V hp)
      have tv : Tv (tB (eBin oNotIn (eBin oIx (eVar 4) (eVar 2)) (eVar 3))) [some (TI ds), some (TI order), some (.int p), some (LI a), some (LI (holders ds (order.take x.toNat)))] (!has a (holder ds (order.take x.toNat) p)) := tv_b (ev_bin ix (ev_var rfl) (oNotIn_LI _ _))
      unfold stepH
      refine ⟨?_, _, some (LI (holders ds (order.take x.toNat))), rfl, nx_seq (nx_if tv (fun q => ?_) fun q => ?_) nx_nil⟩
      · split
        · simp; omega
        · omega
      · rw [if_pos q]
        exact nx_seq (nx_appI (l := a) ix (by omega)) nx_nil
      · rw [if_neg (by rw [q]; decide)]
        exact nx_nil
  exact rt_seq L (rt_seq1 (rt_ret (ev_var rfl)))
theorem stepH_le (f : Int → Int) : ∀ (xs : List Int) (a : List Int), a.length ≤ (xs.foldl (fun a k => stepH a (f k)) a).length ∧ (xs.foldl (fun a k => stepH a (f k)) a).length ≤ a.length + xs.length
  | [], a => ⟨Nat.le_refl _, Nat.le_refl _⟩
  | x :: xs, a => by
    obtain ⟨h1, h2⟩ := stepH_le f xs (stepH a (f x))
    have : a.length ≤ (stepH a (f x)).length ∧ (stepH a (f x)).length ≤ a.length + 1 := by unfold stepH; split <;> simp
    rw [List.foldl_cons, List.length_cons]
    omega
theorem traceH_len (ds order : List Int) (p : Int) : 1 ≤ (traceH ds order p).length ∧ (traceH ds order p).length ≤ order.length + 1 := by
  unfold traceH
  have e : ran (order.length + 1) = 0 :: (List.range order.length).map fun (i : Nat) => ((i + 1 : Nat) : Int) := by
    unfold ran
    rw [List.range_succ_eq_map, List.map_cons, List.map_map]
    rfl
  rw [e, List.foldl_cons]
  have h := stepH_le (fun k => holder ds (order.take k.toNat) p) ((List.range order.length).map fun (i : Nat) => ((i + 1 : Nat) : Int)) (stepH [] (holder ds (order.take (0 : Int).toNat) p))
  have h0 : (stepH [] (holder ds (order.take (0 : Int).toNat) p)).length = 1 := rfl
  rw [h0, List.length_map, List.length_range] at h
  omega
def handed (ds o : List Int) : Int := ((ran ds.length).map fun p => ((traceH ds o p).length : Int) - 1).sum
theorem fv_handed {n : Nat} {ds order : List Int} (V : Val n ds) (hn : n ≤ 800) (ho : order.length ≤ 800) : Fv F_handed [TI ds, TI order] (.int (handed ds order)) := by
  have e : handed ds order = (((ran n).filter fun _ => true).map fun p => ((traceH ds order p).length : Int) - 1).sum := by
    rw [List.filter_eq_self.mpr (fun _ _ => rfl)]
    unfold handed
    rw [V.len]
  rw [e]
  refine fv_rt (rt_seq1 (rt_ret (ev_sum (st := fun p => [some (TI ds), some (TI order), some (.int p)]) (av_range (n := n) (ev_un (ev_var rfl) (by rw [oLen_TI, V.len])) (by omega)) (by rw [ran_length]; omega) fun p hp => ⟨rfl, tv_yes, fun _ => ⟨ev_bin (ev_un (ev_call (av_cons (ev_var rfl) (av_cons (ev_var rfl) (av_cons (ev_var rfl) av_nil))) (fv_handings V hn ho hp)) (oLen_LI _)) ev_c rfl, ?_⟩⟩)))
  have := traceH_len ds order p
  omega
/-! ### the law's chain -/
def chainL (ds : List Int) : Nat → Int → List Int → List Int
  | 0, _, found => found
  | k + 1, here, found => if (!(here == -1) && !has found here) = true then chainL ds k (nth ds here) (found ++ [here]) else chainL ds k here found
theorem chainL_stay (ds : List Int) {here : Int} {found : List Int} (h : (!(here == -1) && !has found here) = false) : ∀ k, chainL ds k here found = found
  | 0 => rfl
  | k + 1 => by unfold chainL; rw [h]; exact chainL_stay ds h k
theorem chainL_eq (ds : List Int) : ∀ (k m : Nat) (here : Int) (found f : List Int), chainE ds k here found = some f → f.length ≤ found.length + m → chainL ds m here found = f
  | 0, _, _, _, _, h, _ => by cases h
  | k + 1, m, here, found, f, h, hl => by
    unfold chainE at h
    have hb : (!(here == -1) && !has found here) = !(here == -1 || has found here) := by simp [Bool.not_or]
    by_cases q : (here == -1 || has found here) = true
    · rw [if_pos q] at h
      cases h
      exact chainL_stay ds (by rw [hb, q]; rfl) m
    · rw [if_neg q] at h
      have q' : (here == -1 || has found here) = false := by simpa using q
      obtain ⟨rest, e⟩ := chainE_pre ds _ _ _ f h
      have el : f.length = found.length + 1 + rest.length := by rw [e]; simp; omega
      cases m with
      | zero => omega
      | succ m =>
        unfold chainL
        rw [hb, q']
        exact chainL_eq ds k m _ _ f h (by rw [List.length_append, List.length_singleton]; omega)
theorem chainE_nodup (ds : List Int) : ∀ (k : Nat) (here : Int) (found f : List Int), found.Nodup → chainE ds k here found = some f → f.Nodup
  | 0, _, _, _, _, h => by cases h
  | k + 1, here, found, f, nd, h => by
    unfold chainE at h
    split at h
    · cases h; exact nd
    · rename_i q
      refine chainE_nodup ds k _ _ f (List.nodup_append.mpr ⟨nd, by simp, fun a ha b hb e => ?_⟩) h
      have : b = here := by simpa using hb
      subst this
      subst e
      have : has found a = true := has_iff.mpr ha
      rw [this] at q; simp at q
theorem chain_len {n : Nat} {ds : List Int} (V : Val n ds) {p : Int} (hp : p ∈ ran n) : (chain ds p).length ≤ n := by
  have nd := chainE_nodup ds _ _ _ _ List.nodup_nil ((stops_of V).eq V hp)
  have := nd.length_le_of_subset (l₂ := ran n) (chain_mem V (stops_of V) hp)
  rwa [ran_length] at this
theorem fold_chainL (ds : List Int) : ∀ (xs : List Int) (a : Int × List Int), (xs.foldl (fun (a : Int × List Int) _ => if (!(a.1 == -1) && !has a.2 a.1) = true then (nth ds a.1, a.2 ++ [a.1]) else a) a).2 = chainL ds xs.length a.1 a.2
  | [], a => rfl
  | x :: xs, a => by
    rw [List.foldl_cons, fold_chainL ds xs, List.length_cons]
    have e : chainL ds (xs.length + 1) a.1 a.2 = if (!(a.1 == -1) && !has a.2 a.1) = true then chainL ds xs.length (nth ds a.1) (a.2 ++ [a.1]) else chainL ds xs.length a.1 a.2 := rfl
    rw [e]
    by_cases q : (!(a.1 == -1) && !has a.2 a.1) = true
    · rw [if_pos q, if_pos q]
    · rw [if_neg q, if_neg q]
theorem fv_lchain {n : Nat} {ds : List Int} (V : Val n ds) (hn : n ≤ 800) {p : Int} (hp : p ∈ ran n) : Fv F_law_chain [TI ds, .int p] (LI (chain ds p)) := by
  obtain ⟨p1, p2⟩ := mem_ran.mp hp
  refine fv_rt (rt_seq (nx_set (ev_lst av_nil (by decide))) ?_)
  obtain ⟨_, j', L⟩ := nx_fori (g := gVar 3) (b := (sSeq (sIf (tAnd (tB (eBin oNe (eVar 1) (eUn oNeg (eC (.int 1))))) (tB (eBin oNotIn (eVar 1) (eVar 2)))) (sSeq (sApp 2 (eVar 1)) (sSeq (sSet 1 (eBin oIx (eVar 0) (eVar 1))) sNil)) sNil) sNil))
    (w := wRange (eUn oLen (eVar 0))) (enc := D.int) (xs := ran n) (S := fun (a : Int × List Int) (j : Option D) => [some (TI ds), some (.int a.1), some (LI a.2), j])
    (fun i a => -1 ≤ a.1 ∧ a.1 < n ∧ a.2.length ≤ i) (fun (a : Int × List Int) _ => if (!(a.1 == -1) && !has a.2 a.1) = true then (nth ds a.1, a.2 ++ [a.1]) else a) (a := (p, [])) (j := none) (av_range (n := n) (ev_un (ev_var rfl) (by rw [oLen_TI, V.len])) (by omega)) ⟨by show -1 ≤ p; omega, p2, Nat.le_refl _⟩ fun i a x j hi hI hx => by
      obtain ⟨here, seen⟩ := a
      obtain ⟨h1, h2, h3⟩ := hI
      have h1 : -1 ≤ here := h1
      have h2 : here < n := h2
      have h3 : seen.length ≤ i := h3
      rw [ran_length] at hi
      have tv : Tv (tAnd (tB (eBin oNe (eVar 1) (eUn oNeg (eC (.int 1))))) (tB (eBin oNotIn (eVar 1) (eVar 2)))) [some (TI ds), some (.int here), some (LI seen), some (.int x)] (!(here == -1) && !has seen here) :=
        tv_and (tv_b (ev_bin (ev_var rfl) (ev_un ev_c rfl) (oNe_int _ _))) fun _ => tv_b (ev_bin (ev_var rfl) (ev_var rfl) (oNotIn_LI _ _))
      have h0 : (!(here == -1) && !has seen here) = true → 0 ≤ here := fun q => by
        have : here ≠ -1 := fun e => by subst e; simp at q
        omega
      refine ⟨?_, _, some (.int x), rfl, nx_seq (nx_if tv (fun q => ?_) fun q => ?_) nx_nil⟩
      · dsimp only
        split
        · rename_i q
          have hv := V.nth (h0 q) h2
          exact ⟨hv.1, hv.2, by simp; omega⟩
        · exact ⟨h1, h2, by show seen.length ≤ _; omega⟩
      · rw [if_pos q]
        exact nx_seq (nx_appI (l := seen) (ev_var rfl) (by omega)) (nx_seq (nx_set (ev_bin (ev_var rfl) (ev_var rfl) (oIx_TI (h0 q) (by rw [V.len]; exact h2)))) nx_nil)
      · rw [if_neg (by rw [q]; decide)]
        exact nx_nil
  have K := fold_chainL ds (ran n) (p, [])
  have e : chainL ds (ran n).length p [] = chain ds p := chainL_eq ds _ _ _ _ _ ((stops_of V).eq V hp) (by rw [ran_length]; have := chain_len V hp; simp; omega)
  refine rt_seq L (rt_seq1 (rt_ret ?_))
  have z : Ev (eVar 2) [some (TI ds), some (.int ((ran n).foldl (fun (a : Int × List Int) _ => if (!(a.1 == -1) && !has a.2 a.1) = true then (nth ds a.1, a.2 ++ [a.1]) else a) (p, [])).1), some (LI ((ran n).foldl (fun (a : Int × List Int) _ => if (!(a.1 == -1) && !has a.2 a.1) = true then (nth ds a.1, a.2 ++ [a.1]) else a) (p, [])).2), j'] _ := ev_var rfl
  rw [K, e] at z
  rw [K, e]
  exact z
end PL
end
section
set_option Elab.async false
set_option autoImplicit false
set_option linter.all false
set_option maxRecDepth 100000
set_option maxHeartbeats 1000000
/-! L4: what is demanded of deputies and orders; other names, shapes. -/
namespace PL
structure DVal (n : Nat) (ds : List Int) : Prop extends Val n ds where
  ne : ∀ i : Nat, ds[i]? ≠ some (i : Int)
structure Ord (n : Nat) (o : List Int) : Prop where
  len : o.length = n
  nd : o.Nodup
  rng : ∀ x ∈ o, x ∈ ran n
theorem Ord.nth {n : Nat} {o : List Int} (V : Ord n o) {i : Int} (h0 : 0 ≤ i) (h1 : i < n) : PL.nth o i ∈ ran n := by
  have hl := V.len
  have h : i.toNat < o.length := by omega
  unfold PL.nth
  rw [List.getD_eq_getElem?_getD, List.getElem?_eq_getElem h]
  exact V.rng _ (List.getElem_mem h)
theorem beqs_ints : ∀ a b : List Int, D.beqs (a.map .int) (b.map .int) = (a == b)
  | [], [] => rfl
  | [], _ :: _ => rfl
  | _ :: _, [] => rfl
  | x :: a, y :: b => by
    rw [List.map_cons, List.map_cons]
    unfold D.beqs
    rw [beqs_ints a b]
    rfl
theorem beq_TI (a b : List Int) : D.beq (TI a) (TI b) = (a == b) := by show D.beqs _ _ = _; exact beqs_ints a b
theorem oEq_TI (a b : List Int) : oEq (TI a) (TI b) = some (.bl (a == b)) := by
  show (if (((a.map D.int).all (D.ok 7)) && ((b.map D.int).all (D.ok 7))) = true then some (D.bl (D.beq (TI a) (TI b))) else none) = _
  rw [ok_ints, ok_ints, beq_TI]; rfl
theorem fv_is_in (v lo hi : Int) : Fv F_is_in [.int v, .int lo, .int hi] (.bl (decide (lo ≤ v) && decide (v ≤ hi))) := by
  have t1 : Ev (eCall (fIs .tInt) (aCons (eVar 0) aNil)) [some (.int v), some (.int lo), some (.int hi)] (.bl true) := ev_call (av_cons (ev_var rfl) av_nil) fun _ => rfl
  have t2 : Ev (eCall (fIs .tBool) (aCons (eVar 0) aNil)) [some (.int v), some (.int lo), some (.int hi)] (.bl false) := ev_call (av_cons (ev_var rfl) av_nil) fun _ => rfl
  have t3 : Ev (eChain oLe oLe (eVar 1) (eVar 0) (eVar 2)) [some (.int v), some (.int lo), some (.int hi)] (.bl (decide (lo ≤ v) && decide (v ≤ hi))) := ev_le2 (ev_var rfl) (ev_var rfl) (ev_var rfl)
  have z := ev_and t1 fun _ => ev_and (ev_not t2) fun _ => t3
  exact fv_rt (rt_seq1 (rt_ret z))
theorem zip_enum : ∀ (l : List Int) (k : List Nat), k.zipWith (fun i d => D.tup [.int (i : Nat), d]) (l.map .int) = (k.zip l).map fun q => .tup [.int (q.1 : Nat), .int q.2]
  | [], k => by cases k <;> rfl
  | x :: l, [] => rfl
  | x :: l, i :: k => by rw [List.map_cons, List.zipWith_cons_cons, zip_enum l k]; rfl
theorem av_enum {a : Ex} {s : Sl} {l : List Int} (h : Ev a s (TI l)) : Av (wEnum a) s (((List.range l.length).zip l).map fun q => .tup [.int (q.1 : Nat), .int q.2]) := fun r => by
  unfold wEnum; rw [h r]; dsimp only
  rw [List.length_map, zip_enum]
theorem mem_enum {l : List Int} {q : Nat × Int} (h : q ∈ (List.range l.length).zip l) : l[q.1]? = some q.2 := by
  obtain ⟨i, hi, e⟩ := List.mem_iff_getElem.mp h
  rw [List.getElem_zip] at e
  rw [List.length_zip, List.length_range] at hi
  subst e
  simp
theorem fv_are {n : Nat} {ds : List Int} (V : DVal n ds) (h1 : 1 ≤ n) (h6 : n ≤ 6) : Fv F_are_deputies [TI ds] (.bl true) := by
  have hl := V.len
  have c1 : Tv (tOr (tNot (tB (eCall (fIs .tTup) (aCons (eVar 0) aNil)))) (tNot (tB (eChain oLe oLe (eC (.int 1)) (eUn oLen (eVar 0)) (eC (.int 6)))))) [some (TI ds), none, none] false := by
    have z := tv_or (tv_not (tv_b (ev_call (f := fIs .tTup) (s := [some (TI ds), none, none]) (v := .bl true) (av_cons (ev_var (i := 0) rfl) av_nil) fun _ => rfl))) fun _ => tv_not (tv_b (ev_le2 (ev_c (v := .int 1)) (ev_un (ev_var (i := 0) (s := [some (TI ds), none, none]) rfl) (oLen_TI ds)) (ev_c (v := .int 6))))
    have e : (!true || !(decide ((1 : Int) ≤ (ds.length : Int)) && decide ((ds.length : Int) ≤ 6))) = false := by simp; omega
    rw [e] at z
    exact z
  refine fv_rt (rt_seq (nx_if c1 (fun q => by cases q) fun _ => nx_nil) (rt_seq1 (rt_ret ?_)))
  have A := ev_all (vs := [1, 2]) (e := (eAnd (eCall F_is_in (aCons (eVar 2) (aCons (eUn oNeg (eC (.int 1))) (aCons (eBin oSub (eUn oLen (eVar 0)) (eC (.int 1))) aNil)))) (eBin oNe (eVar 2) (eVar 1)))) (tg := gTup [(gVar 1), (gVar 2)])
    (st := fun q : Nat × Int => [some (TI ds), some (.int (q.1 : Nat)), some (.int q.2)]) (k := fun q => (decide (-1 ≤ q.2) && decide (q.2 ≤ (ds.length : Int) - 1)) && !(q.2 == (q.1 : Int))) (av_enum (s := [some (TI ds), none, none]) (a := eVar 0) (ev_var rfl)) fun q hq => ⟨rfl, ev_and (ev_call (av_cons (ev_var rfl) (av_cons (ev_un ev_c rfl) (av_cons (ev_bin (ev_un (ev_var rfl) (oLen_TI _)) ev_c rfl) av_nil))) (fv_is_in _ _ _)) fun _ => ev_bin (ev_var rfl) (ev_var rfl) (oNe_int _ _)⟩
  have e : ((List.range ds.length).zip ds).all (fun q => (decide (-1 ≤ q.2) && decide (q.2 ≤ (ds.length : Int) - 1)) && !(q.2 == (q.1 : Int))) = true := by
    refine List.all_eq_true.mpr fun q hq => ?_
    have h := mem_enum hq
    have r := V.rng _ (List.mem_of_getElem? h)
    have nn : q.2 ≠ (q.1 : Int) := fun e => V.ne q.1 (by rw [h, e])
    simp only [Bool.and_eq_true, decide_eq_true_eq, Bool.not_eq_true', beq_eq_false_iff_ne]
    exact ⟨⟨r.1, by omega⟩, nn⟩
  rw [e] at A
  exact A
theorem fv_need {n : Nat} {ds : List Int} (V : DVal n ds) (h1 : 1 ≤ n) (h6 : n ≤ 6) : Fv F_need_deputies [TI ds] .non :=
  fv_nx (nx_seq (nx_if (k := false) (tv_not (tv_b (ev_call (av_cons (ev_var rfl) av_nil) (fv_are V h1 h6)))) (fun q => by cases q) fun _ => nx_nil) nx_nil)
theorem fv_need_person {n : Nat} {ds : List Int} (V : Val n ds) {p : Int} (hp : p ∈ ran n) : Fv F_need_person [TI ds, .int p] .non := by
  obtain ⟨p1, p2⟩ := mem_ran.mp hp
  have hl := V.len
  have z := tv_not (tv_b (ev_call (s := [some (TI ds), some (.int p)]) (av_cons (ev_var (i := 1) rfl) (av_cons (ev_c (v := .int 0)) (av_cons (ev_bin (ev_un (ev_var (i := 0) rfl) (oLen_TI ds)) (ev_c (v := .int 1)) (oSub_int _ _)) av_nil))) (fv_is_in p 0 ((ds.length : Int) - 1))))
  have e : (!(decide ((0 : Int) ≤ p) && decide (p ≤ (ds.length : Int) - 1))) = false := by simp; omega
  rw [e] at z
  exact fv_nx (s' := [some (TI ds), some (.int p)]) (nx_seq (nx_if z (fun q => by cases q) fun _ => nx_nil) nx_nil)
/-! ### orders -/
theorem compI_nodup {tg : Tg} {k e : Ex} {s : Sl} {st : Int → Sl} {v : D} : ∀ (xs : List Int) (acc : List (Int × D)), (∀ x ∈ xs, tg (.int x) s = some (st x) ∧ Ev k (st x) (.int x) ∧ Ev e (st x) v) → xs.Nodup → (∀ x ∈ xs, ∀ q ∈ acc, q.1 ≠ x) →
    ∀ r, compI tg k e s (xs.map .int) acc r = some (acc ++ xs.map fun x => (x, v), r)
  | [], acc, _, _, _, r => by simp [compI]
  | x :: xs, acc, h, nd, ha, r => by
    obtain ⟨h1, h2, h3⟩ := h x List.mem_cons_self
    obtain ⟨n1, n2⟩ := List.nodup_cons.mp nd
    have hp : putI acc x v = acc ++ [(x, v)] := by
      unfold putI
      rw [if_neg]
      intro z
      obtain ⟨q, hq, e⟩ := List.any_eq_true.mp z
      exact ha x List.mem_cons_self q hq (by simpa using e)
    rw [List.map_cons]
    unfold compI
    rw [h1]
    dsimp only
    rw [h2 r]
    dsimp only
    rw [h3 r]
    dsimp only
    rw [hp, compI_nodup xs _ (fun y hy => h y (List.mem_cons_of_mem _ hy)) n2 (fun y hy q hq => by
      rcases List.mem_append.mp hq with z | z
      · exact ha y (List.mem_cons_of_mem _ hy) q z
      · have : q = (x, v) := by simpa using z
        subst this
        exact fun e => n1 (by rw [show x = y from e]; exact hy)) r]
    simp
theorem ev_compI {w : Ar} {s : Sl} {vs : List Nat} {tg : Tg} {k e : Ex} {st : Int → Sl} {v : D} {xs : List Int} (hw : Av w s (xs.map .int)) (hl : xs.length ≤ 1000) (h : ∀ x ∈ xs, tg (.int x) (wipe s vs) = some (st x) ∧ Ev k (st x) (.int x) ∧ Ev e (st x) v) (nd : xs.Nodup) :
    Ev (eCompI vs w tg k e) s (.dki (xs.map fun x => (x, v))) := fun r => by
  unfold eCompI; rw [hw r]; dsimp only
  rw [if_pos (by simpa using hl), compI_nodup xs [] h nd (fun _ _ _ hq => by cases hq) r]
  rfl
theorem fv_is_order {n : Nat} {l : List Int} (nd : l.Nodup) (hr : ∀ x ∈ l, x ∈ ran n) (hn : n ≤ 800) : Fv F_is_order [.int n, TI l] (.bl true) := by
  have hl := nd.length_le_of_subset (l₂ := ran n) hr
  rw [ran_length] at hl
  have A := ev_all (vs := [2]) (e := eCall F_is_in (aCons (eVar 2) (aCons (eC (.int 0)) (aCons (eBin oSub (eVar 0) (eC (.int 1))) aNil)))) (tg := gVar 2) (enc := D.int) (xs := l)
    (st := fun x : Int => [some (.int n), some (TI l), some (.int x)]) (k := fun x => decide (0 ≤ x) && decide (x ≤ (n : Int) - 1)) (av_seqT (s := [some (.int n), some (TI l), none]) (a := eVar 1) (ev_var rfl)) fun x hx => ⟨rfl, ev_call (av_cons (ev_var rfl) (av_cons ev_c (av_cons (ev_bin (ev_var rfl) ev_c rfl) av_nil))) (fv_is_in _ _ _)⟩
  have e : l.all (fun x => decide (0 ≤ x) && decide (x ≤ (n : Int) - 1)) = true := by
    refine List.all_eq_true.mpr fun x hx => ?_
    obtain ⟨h1, h2⟩ := mem_ran.mp (hr x hx)
    simp; omega
  rw [e] at A
  have c1 : Tv (tOr (tNot (tB (eCall (fIs .tTup) (aCons (eVar 1) aNil)))) (tNot (tB (eAll [2] (wSeq (eVar 1)) (gVar 2) tYes (eCall F_is_in (aCons (eVar 2) (aCons (eC (.int 0)) (aCons (eBin oSub (eVar 0) (eC (.int 1))) aNil)))))))) [some (.int n), some (TI l), none] false :=
    tv_or (k := false) (l := false) (tv_not (tv_b (ev_call (v := .bl true) (av_cons (ev_var rfl) av_nil) fun _ => rfl))) fun _ => tv_not (tv_b A)
  have B := ev_bin (o := oEq) (ev_un (o := oLen) (ev_compI (vs := [2]) (w := wSeq (eVar 1)) (k := eVar 2) (tg := gVar 2) (st := fun x : Int => [some (.int n), some (TI l), some (.int x)]) (s := [some (.int n), some (TI l), none]) (av_seqT (ev_var rfl)) (by omega) (fun x hx => ⟨rfl, ev_var rfl, ev_c (v := .bl true)⟩) nd) (y := .int l.length) (by show some (D.int ((l.map fun x => (x, D.bl true)).length)) = _; rw [List.length_map])) (ev_un (o := oLen) (ev_var (i := 1) rfl) (oLen_TI l)) (oEq_int _ _)
  rw [beq_self_eq_true] at B
  exact fv_rt (rt_seq (nx_if c1 (fun q => by cases q) fun _ => nx_nil) (rt_seq1 (rt_ret B)))
theorem fv_is_order_no {n : Int} {x : D} (h : ∀ r, fIs .tTup [x] r = some (.bl false, r)) : Fv F_is_order [.int n, x] (.bl false) := by
  have c1 : Tv (tOr (tNot (tB (eCall (fIs .tTup) (aCons (eVar 1) aNil)))) (tNot (tB (eAll [2] (wSeq (eVar 1)) (gVar 2) tYes (eCall F_is_in (aCons (eVar 2) (aCons (eC (.int 0)) (aCons (eBin oSub (eVar 0) (eC (.int 1))) aNil)))))))) [some (.int n), some x, none] true := fun r =>
    tv_or (k := true) (l := true) (tv_not (tv_b (ev_call (v := .bl false) (av_cons (ev_var rfl) av_nil) h))) (fun q => by cases q) r
  exact fv_rt (rt_seq1 (rt_if c1 (fun _ => rt_seq1 (rt_ret ev_c)) fun q => by cases q))
/-! ### names -/
def wn (ds o : List Int) : List Int := ((List.range ds.length).zip ds).foldl (fun a q => a.set (nth o q.1).toNat (if (q.2 == -1) = true then -1 else nth o q.2)) ds
theorem nx_setIxI {s s' : Sl} {i : Nat} {k e : Ex} {z x : Int} {a : List Int} (he : Ev e s (.int x)) (hk : Ev k s (.int z)) (h0 : 0 ≤ z) (h1 : z < a.length) (hi : s[i]? = some (some (LI a)) := by rfl) (hs : s.set i (some (LI (a.set z.toNat x))) = s' := by rfl) : Nx (sSetIx i k e) s s' := fun r => by
  unfold sSetIx
  rw [he r]; dsimp only
  rw [hk r]; dsimp only
  rw [hi]; dsimp only
  rw [List.length_map, ixOf_nn h0 h1]; dsimp only
  rw [← hs]
  show some (Out.nx (s.set i (some (D.lst ((a.map D.int).set z.toNat (D.int x))))) r) = some (Out.nx (s.set i (some (D.lst ((a.set z.toNat x).map D.int)))) r)
  rw [List.map_set]
theorem fv_wn {n : Nat} {ds o : List Int} (V : Val n ds) (O : Ord n o) (hn : n ≤ 800) : Fv F_with_names [TI ds, TI o] (TI (wn ds o)) := by
  have hl := V.len
  refine fv_rt (rt_seq (nx_set (ev_un (ev_var rfl) (y := LI ds) rfl)) ?_)
  obtain ⟨_, j', L⟩ := nx_fori (g := gTup [(gVar 3), (gVar 4)]) (b := (sSeq (sSetIx 2 (eBin oIx (eVar 1) (eVar 3)) (eIf (tB (eBin oEq (eVar 4) (eUn oNeg (eC (.int 1))))) (eUn oNeg (eC (.int 1))) (eBin oIx (eVar 1) (eVar 4)))) sNil))
    (w := wEnum (eVar 0)) (enc := fun q : Nat × Int => D.tup [.int (q.1 : Nat), .int q.2]) (xs := (List.range ds.length).zip ds) (S := fun (a : List Int) (j : Option D × Option D) => [some (TI ds), some (TI o), some (LI a), j.1, j.2])
    (fun _ a => a.length = n) (fun a q => a.set (nth o q.1).toNat (if (q.2 == -1) = true then -1 else nth o q.2)) (a := ds) (j := (none, none)) (av_enum (ev_var rfl)) hl fun i a q j hi hI hq => by
      have h := mem_enum hq
      have hlt : q.1 < n := by
        obtain ⟨h2, _⟩ := List.getElem?_eq_some_iff.mp h
        omega
      have r := V.rng _ (List.mem_of_getElem? h)
      have o1 := O.nth (i := (q.1 : Int)) (by omega) (by omega)
      obtain ⟨z1, z2⟩ := mem_ran.mp o1
      have ov : Ev (eIf (tB (eBin oEq (eVar 4) (eUn oNeg (eC (.int 1))))) (eUn oNeg (eC (.int 1))) (eBin oIx (eVar 1) (eVar 4))) [some (TI ds), some (TI o), some (LI a), some (.int (q.1 : Nat)), some (.int q.2)] (.int (if (q.2 == -1) = true then -1 else nth o q.2)) :=
        ev_if (tv_b (ev_bin (ev_var rfl) (ev_un ev_c rfl) (oEq_int _ _))) (fun c => by rw [if_pos c]; exact ev_un ev_c rfl) fun c => by
          rw [if_neg (by rw [c]; decide)]
          have : q.2 ≠ -1 := by simpa using c
          exact ev_bin (ev_var rfl) (ev_var rfl) (oIx_TI (by omega) (by rw [O.len]; exact r.2))
      refine ⟨by rw [List.length_set]; exact hI, _, (some (.int (q.1 : Nat)), some (.int q.2)), rfl, nx_seq (nx_setIxI (a := a) ov (ev_bin (ev_var rfl) (ev_var rfl) (oIx_TI (by omega) (by rw [O.len]; omega))) z1 (by rw [hI]; exact z2)) nx_nil⟩
  exact rt_seq L (rt_seq1 (rt_ret (ev_un (ev_var rfl) rfl)))
end PL
end
section
set_option Elab.async false
set_option autoImplicit false
set_option linter.all false
set_option maxRecDepth 100000
set_option maxHeartbeats 0
/-! L5: printed by gen_l5.py: the orders, by size; shapes. -/
namespace PL
def perms : Nat → List (List Int)
  | 1 => [[0]]
  | 2 => [[0, 1], [1, 0]]
  | 3 => [[0, 1, 2], [0, 2, 1], [1, 0, 2], [1, 2, 0], [2, 0, 1], [2, 1, 0]]
  | 4 => [[0, 1, 2, 3], [0, 1, 3, 2], [0, 2, 1, 3], [0, 2, 3, 1], [0, 3, 1, 2], [0, 3, 2, 1], [1, 0, 2, 3], [1, 0, 3, 2], [1, 2, 0, 3], [1, 2, 3, 0], [1, 3, 0, 2], [1, 3, 2, 0], [2, 0, 1, 3], [2, 0, 3, 1], [2, 1, 0, 3], [2, 1, 3, 0], [2, 3, 0, 1], [2, 3, 1, 0], [3, 0, 1, 2], [3, 0, 2, 1], [3, 1, 0, 2], [3, 1, 2, 0], [3, 2, 0, 1], [3, 2, 1, 0]]
  | _ => []
theorem ao1 : Fv F_all_orders [.int 1] (.lst ((perms 1).map TI)) := fun r => by kernel_rfl
theorem lo1 : Fv (F_law_orders 6) [LI (ran 1)] (.lst ((perms 1).map TI)) := fun r => by kernel_rfl
theorem ao2 : Fv F_all_orders [.int 2] (.lst ((perms 2).map TI)) := fun r => by kernel_rfl
theorem lo2 : Fv (F_law_orders 6) [LI (ran 2)] (.lst ((perms 2).map TI)) := fun r => by kernel_rfl
theorem ao3 : Fv F_all_orders [.int 3] (.lst ((perms 3).map TI)) := fun r => by kernel_rfl
theorem lo3 : Fv (F_law_orders 6) [LI (ran 3)] (.lst ((perms 3).map TI)) := fun r => by kernel_rfl
theorem ao4 : Fv F_all_orders [.int 4] (.lst ((perms 4).map TI)) := fun r => by kernel_rfl
theorem lo4 : Fv (F_law_orders 6) [LI (ran 4)] (.lst ((perms 4).map TI)) := fun r => by kernel_rfl
theorem ao {n : Nat} (h1 : 1 ≤ n) (h4 : n ≤ 4) : Fv F_all_orders [.int n] (.lst ((perms n).map TI)) := by
  match n, h1, h4 with
  | 1, _, _ => exact ao1
  | 2, _, _ => exact ao2
  | 3, _, _ => exact ao3
  | 4, _, _ => exact ao4
theorem lo {n : Nat} (h1 : 1 ≤ n) (h4 : n ≤ 4) : Fv (F_law_orders 6) [LI (ran n)] (.lst ((perms n).map TI)) := by
  match n, h1, h4 with
  | 1, _, _ => exact lo1
  | 2, _, _ => exact lo2
  | 3, _, _ => exact lo3
  | 4, _, _ => exact lo4
def ordB (n : Nat) (o : List Int) : Bool := decide (o.length = n) && decide o.Nodup && o.all fun x => decide (0 ≤ x) && decide (x < n)
theorem perms_ordB : ([1, 2, 3, 4].all fun n => (perms n).all (ordB n)) = true := by decide +kernel
theorem perms_ord {n : Nat} (h1 : 1 ≤ n) (h4 : n ≤ 4) {o : List Int} (ho : o ∈ perms n) : Ord n o := by
  have hn : n ∈ [1, 2, 3, 4] := by simp; omega
  have z := List.all_eq_true.mp (List.all_eq_true.mp perms_ordB n hn) o ho
  unfold ordB at z
  simp only [Bool.and_eq_true, decide_eq_true_eq, List.all_eq_true] at z
  exact ⟨z.1.1, z.1.2, fun x hx => mem_ran.mpr (z.2 x hx)⟩
theorem perms_len {n : Nat} (h1 : 1 ≤ n) (h4 : n ≤ 4) : (perms n).length ≤ 24 ∧ perms n ≠ [] := by
  match n, h1, h4 with
  | 1, _, _ => exact ⟨by decide, by decide⟩
  | 2, _, _ => exact ⟨by decide, by decide⟩
  | 3, _, _ => exact ⟨by decide, by decide⟩
  | 4, _, _ => exact ⟨by decide, by decide⟩
/-! ### shapes -/
theorem asIntss_TI : ∀ l : List (List Int), asIntss (l.map TI) = some l
  | [] => rfl
  | x :: l => by
    rw [List.map_cons]
    show (match asInts (x.map D.int), asIntss (l.map TI) with | some is, some iss => some (is :: iss) | _, _ => none) = _
    rw [asInts_map, asIntss_TI l]
def minL : List (List Int) → List Int
  | [] => []
  | x :: xs => minT x xs
theorem oMinT_TI {l : List (List Int)} (h : l ≠ []) : oMinT (.lst (l.map TI)) = some (TI (minL l)) := by
  show (match asIntss (l.map TI) with | some (x :: xs) => some (D.tup ((minT x xs).map .int)) | _ => none) = _
  rw [asIntss_TI]
  cases l with
  | nil => exact absurd rfl h
  | cons x xs => rfl
def shp (n : Nat) (ds : List Int) : List Int := minL ((perms n).map (wn ds))
theorem fv_shape_of {n : Nat} {ds : List Int} (V : Val n ds) (h1 : 1 ≤ n) (h4 : n ≤ 4) : Fv F_shape_of [TI ds] (TI (shp n ds)) := by
  have hp := perms_len h1 h4
  have c : Ev (eComp [1] (wSeq (eCall F_all_orders (aCons (eUn oLen (eVar 0)) aNil))) (gVar 1) tYes (eCall F_with_names (aCons (eVar 0) (aCons (eVar 1) aNil)))) [some (TI ds), none] (.lst (((perms n).map (wn ds)).map TI)) := by
    rw [List.map_map]
    exact ev_comp' (enc := TI) (F := TI ∘ wn ds) (st := fun o => [some (TI ds), some (TI o)]) (av_seqL (ev_call (av_cons (ev_un (o := oLen) (ev_var rfl) (by rw [oLen_TI, V.len])) av_nil) (ao h1 h4))) (by omega) fun o ho => ⟨rfl, ev_call (av_cons (ev_var rfl) (av_cons (ev_var rfl) av_nil)) (fv_wn V (perms_ord h1 h4 ho) (by omega))⟩
  exact fv_rt (rt_seq1 (rt_ret (ev_un c (oMinT_TI (by simp [hp.2])))))
theorem fv_shape {n : Nat} {ds : List Int} (V : DVal n ds) (h1 : 1 ≤ n) (h4 : n ≤ 4) : Fv F_shape [TI ds] (TI (shp n ds)) :=
  fv_rt (rt_seq (nx_ex (ev_call (av_cons (ev_var rfl) av_nil) (fv_need V h1 (by omega)))) (rt_seq1 (rt_ret (ev_call (av_cons (ev_var rfl) av_nil) (fv_shape_of V.toVal h1 h4)))))
theorem fv_alike {n : Nat} {ds ot : List Int} (V : DVal n ds) (W : DVal n ot) (h1 : 1 ≤ n) (h4 : n ≤ 4) : Fv F_alike [TI ds, TI ot] (.bl (shp n ds == shp n ot)) := by
  have c : Tv (tOr (tNot (tB (eCall F_are_deputies (aCons (eVar 1) aNil)))) (tB (eBin oNe (eUn oLen (eVar 1)) (eUn oLen (eVar 0))))) [some (TI ds), some (TI ot)] false := by
    have z := tv_or (tv_not (tv_b (ev_call (s := [some (TI ds), some (TI ot)]) (av_cons (ev_var (i := 1) rfl) av_nil) (fv_are W h1 (by omega))))) fun _ => tv_b (ev_bin (o := oNe) (ev_un (o := oLen) (ev_var (i := 1) rfl) (oLen_TI ot)) (ev_un (o := oLen) (ev_var (i := 0) rfl) (oLen_TI ds)) (oNe_int _ _))
    rw [V.len, W.len, beq_self_eq_true] at z
    exact z
  exact fv_rt (rt_seq (nx_ex (ev_call (av_cons (ev_var rfl) av_nil) (fv_need V h1 (by omega)))) (rt_seq (nx_if c (fun q => by cases q) fun _ => nx_nil) (rt_seq1 (rt_ret (ev_bin (ev_call (av_cons (ev_var rfl) av_nil) (fv_shape_of V.toVal h1 h4)) (ev_call (av_cons (ev_var rfl) av_nil) (fv_shape_of W.toVal h1 h4)) (oEq_TI _ _))))))
def own (n : Nat) (ds : List Int) : Nat := (perms n).countP fun o => wn ds o == ds
theorem fv_own {n : Nat} {ds : List Int} (V : DVal n ds) (h1 : 1 ≤ n) (h4 : n ≤ 4) : Fv F_own_names [TI ds] (.int (own n ds)) := by
  have hp := perms_len h1 h4
  have c := ev_comp (vs := [1]) (w := wSeq (eCall F_all_orders (aCons (eUn oLen (eVar 0)) aNil))) (tg := gVar 1) (e := eC (.int 1)) (s := [some (TI ds), none]) (enc := TI) (xs := perms n) (F := fun _ => D.int 1) (st := fun o => [some (TI ds), some (TI o)]) (p := fun o => wn ds o == ds)
    (t := tB (eBin oEq (eCall F_with_names (aCons (eVar 0) (aCons (eVar 1) aNil))) (eVar 0))) (av_seqL (ev_call (av_cons (ev_un (o := oLen) (ev_var rfl) (by rw [oLen_TI, V.len])) av_nil) (ao h1 h4))) (by omega) fun o ho => ⟨rfl, tv_b (ev_bin (ev_call (av_cons (ev_var rfl) (av_cons (ev_var rfl) av_nil)) (fv_wn V.toVal (perms_ord h1 h4 ho) (by omega))) (ev_var rfl) (oEq_TI _ _)), fun _ => ev_c⟩
  refine fv_rt (rt_seq (nx_ex (ev_call (av_cons (ev_var rfl) av_nil) (fv_need V h1 (by omega)))) (rt_seq1 (rt_ret (ev_un c ?_))))
  show some (D.int (((perms n).filter fun o => wn ds o == ds).map fun _ => D.int 1).length) = _
  rw [List.length_map, ← List.countP_eq_length_filter]
  rfl
end PL
end
section
set_option Elab.async false
set_option autoImplicit false
set_option linter.all false
set_option maxRecDepth 100000
set_option maxHeartbeats 0
/-! LB0: printed by gen_lb.py: all deputies of a size. -/
namespace PL
def cand (n p : Nat) : List Int := (-1) :: (ran n).filter fun x => x != (p : Int)
def allAux (n : Nat) : Nat → List (List Int)
  | 0 => [[]]
  | k + 1 => (allAux n k).flatMap fun l => (cand n l.length).map fun d => l ++ [d]
def allDs (n : Nat) : List (List Int) := allAux n n
theorem mem_allAux {n : Nat} : ∀ (k : Nat) (l : List Int), l.length = k → (∀ (i : Nat) (d : Int), l[i]? = some d → d ∈ cand n i) → l ∈ allAux n k
  | 0, l, hl, _ => by
    have : l = [] := List.eq_nil_of_length_eq_zero hl
    subst this
    exact List.mem_singleton.mpr rfl
  | k + 1, l, hl, h => by
    have hne : l ≠ [] := fun e => by subst e; cases hl
    have e := List.dropLast_concat_getLast hne
    have hd : l.dropLast.length = k := by rw [List.length_dropLast, hl]; rfl
    refine List.mem_flatMap.mpr ⟨l.dropLast, mem_allAux k _ hd fun i d hi => ?_, ?_⟩
    · have hlt : i < l.dropLast.length := by
        obtain ⟨z, _⟩ := List.getElem?_eq_some_iff.mp hi
        exact z
      exact h i d (by rw [← e, List.getElem?_append_left hlt]; exact hi)
    · refine List.mem_map.mpr ⟨l.getLast hne, ?_, e⟩
      rw [hd]
      exact h k _ (by rw [← hd, ← List.getLast?_eq_some_getLast hne, List.getLast?_eq_getElem?, List.length_dropLast])
theorem mem_allDs {n : Nat} {ds : List Int} (V : DVal n ds) : ds ∈ allDs n := mem_allAux n ds V.len fun i d h => by
  have r := V.rng d (List.mem_of_getElem? h)
  have nn : d ≠ (i : Int) := fun e => V.ne i (by rw [h, e])
  unfold cand
  by_cases q : d = -1
  · subst q; exact List.mem_cons_self
  · refine List.mem_cons_of_mem _ (List.mem_filter.mpr ⟨mem_ran.mpr ⟨by omega, r.2⟩, by simpa using nn⟩)

def tab1 : List (Int × List Int) := [(1, [0])]
def tab2 : List (Int × List Int) := [(2, [0, 1]), (3, [1, 0]), (3, [0, 1]), (3, [0, 1])]
def tab3 : List (Int × List Int) := [(3, [0, 1, 2]), (4, [2, 0, 1]), (4, [0, 2, 1]), (4, [1, 0, 2]), (5, [1, 2, 0]), (6, [2, 1, 0]), (4, [0, 1, 2]), (6, [1, 2, 0]), (4, [0, 1, 2]), (4, [0, 1, 2]), (6, [2, 0, 1]), (5, [0, 2, 1]), (4, [0, 1, 2]), (6, [2, 0, 1]), (6, [2, 1, 0]), (6, [0, 1, 2]), (6, [0, 1, 2]), (6, [0, 1, 2]), (4, [0, 1, 2]), (4, [0, 1, 2]), (6, [0, 2, 1]), (6, [1, 0, 2]), (6, [1, 0, 2]), (6, [1, 0, 2]), (5, [0, 1, 2]), (6, [1, 2, 0]), (6, [0, 2, 1])]
def tab4 : List (Int × List Int) := [(4, [0, 1, 2, 3]), (5, [3, 0, 1, 2]), (5, [0, 3, 1, 2]), (5, [0, 1, 3, 2]), (5, [2, 0, 1, 3]), (6, [2, 3, 0, 1]), (6, [2, 0, 3, 1]), (7, [3, 2, 0, 1]), (5, [0, 2, 1, 3]), (6, [3, 0, 2, 1]), (6, [0, 2, 3, 1]), (7, [0, 3, 2, 1]), (5, [0, 1, 2, 3]), (7, [2, 3, 0, 1]), (7, [0, 2, 3, 1]), (5, [0, 1, 2, 3]), (5, [1, 0, 2, 3]), (6, [1, 3, 0, 2]), (7, [3, 1, 0, 2]), (6, [1, 0, 3, 2]), (6, [1, 2, 0, 3]), (7, [1, 2, 3, 0]), (8, [3, 1, 2, 0]), (8, [1, 3, 2, 0]), (7, [2, 1, 0, 3]), (8, [2, 1, 3, 0]), (9, [2, 3, 1, 0]), (10, [3, 2, 1, 0]), (6, [1, 0, 2, 3]), (8, [1, 2, 3, 0]), (10, [2, 3, 1, 0]), (6, [1, 0, 2, 3]), (5, [0, 1, 2, 3]), (6, [3, 0, 1, 2]), (7, [0, 3, 1, 2]), (6, [0, 1, 3, 2]), (7, [1, 2, 0, 3]), (8, [1, 2, 3, 0]), (10, [3, 1, 2, 0]), (9, [1, 3, 2, 0]), (5, [0, 1, 2, 3]), (6, [3, 0, 1, 2]), (7, [0, 3, 1, 2]), (7, [0, 3, 2, 1]), (7, [0, 1, 2, 3]), (10, [1, 2, 3, 0]), (7, [0, 1, 2, 3]), (7, [0, 1, 2, 3]), (5, [0, 1, 2, 3]), (7, [1, 3, 0, 2]), (5, [0, 1, 2, 3]), (7, [0, 1, 3, 2]), (6, [2, 0, 1, 3]), (8, [1, 2, 3, 0]), (6, [2, 0, 1, 3]), (10, [1, 3, 2, 0]), (7, [0, 2, 1, 3]), (10, [2, 1, 3, 0]), (7, [0, 2, 1, 3]), (7, [0, 2, 1, 3]), (6, [0, 1, 2, 3]), (9, [1, 2, 3, 0]), (7, [0, 2, 3, 1]), (7, [0, 1, 3, 2]), (5, [0, 1, 2, 3]), (7, [3, 0, 1, 2]), (6, [0, 3, 1, 2]), (6, [0, 1, 3, 2]), (7, [2, 0, 1, 3]), (9, [2, 3, 0, 1]), (8, [2, 0, 3, 1]), (10, [3, 2, 0, 1]), (6, [0, 2, 1, 3]), (8, [3, 0, 2, 1]), (7, [0, 2, 3, 1]), (8, [0, 3, 2, 1]), (6, [0, 1, 2, 3]), (10, [2, 3, 0, 1]), (8, [0, 2, 3, 1]), (6, [0, 1, 2, 3]), (5, [0, 1, 2, 3]), (7, [3, 0, 1, 2]), (7, [3, 1, 0, 2]), (6, [0, 1, 3, 2]), (7, [2, 0, 1, 3]), (9, [2, 3, 0, 1]), (8, [2, 0, 3, 1]), (10, [3, 2, 0, 1]), (7, [2, 1, 0, 3]), (8, [3, 0, 2, 1]), (9, [2, 3, 1, 0]), (10, [3, 2, 1, 0]), (6, [0, 1, 2, 3]), (10, [2, 3, 0, 1]), (10, [2, 3, 1, 0]), (6, [0, 1, 2, 3]), (7, [0, 1, 2, 3]), (10, [3, 0, 1, 2]), (9, [0, 3, 1, 2]), (8, [0, 1, 3, 2]), (7, [0, 1, 2, 3]), (10, [3, 0, 1, 2]), (10, [3, 1, 2, 0]), (10, [3, 2, 0, 1]), (7, [0, 1, 2, 3]), (10, [3, 0, 1, 2]), (9, [0, 3, 1, 2]), (8, [0, 1, 3, 2]), (10, [0, 1, 2, 3]), (10, [0, 1, 2, 3]), (10, [0, 1, 2, 3]), (10, [0, 1, 2, 3]), (7, [0, 1, 2, 3]), (7, [0, 1, 2, 3]), (7, [0, 1, 2, 3]), (10, [0, 1, 3, 2]), (10, [2, 0, 1, 3]), (10, [2, 0, 1, 3]), (10, [2, 0, 1, 3]), (10, [2, 0, 1, 3]), (9, [0, 2, 1, 3]), (10, [2, 1, 3, 0]), (9, [0, 2, 1, 3]), (10, [0, 1, 3, 2]), (8, [0, 1, 2, 3]), (10, [2, 3, 0, 1]), (8, [0, 1, 2, 3]), (10, [0, 1, 3, 2]), (5, [0, 1, 2, 3]), (7, [3, 0, 1, 2]), (6, [0, 3, 1, 2]), (6, [0, 1, 3, 2]), (5, [0, 1, 2, 3]), (7, [3, 0, 1, 2]), (6, [0, 3, 1, 2]), (7, [3, 2, 0, 1]), (7, [0, 2, 1, 3]), (10, [3, 0, 2, 1]), (8, [0, 2, 3, 1]), (9, [0, 3, 2, 1]), (7, [0, 1, 2, 3]), (7, [0, 1, 2, 3]), (10, [0, 2, 3, 1]), (7, [0, 1, 2, 3]), (7, [1, 0, 2, 3]), (9, [1, 3, 0, 2]), (10, [3, 1, 0, 2]), (8, [1, 0, 3, 2]), (7, [1, 0, 2, 3]), (9, [1, 3, 0, 2]), (10, [3, 1, 0, 2]), (8, [1, 0, 3, 2]), (7, [1, 0, 2, 3]), (10, [3, 0, 2, 1]), (10, [3, 1, 0, 2]), (10, [3, 2, 1, 0]), (10, [1, 0, 2, 3]), (10, [1, 0, 2, 3]), (10, [1, 0, 2, 3]), (10, [1, 0, 2, 3]), (6, [0, 1, 2, 3]), (8, [3, 0, 1, 2]), (8, [0, 3, 1, 2]), (7, [0, 1, 3, 2]), (7, [1, 2, 0, 3]), (8, [3, 0, 1, 2]), (10, [3, 1, 2, 0]), (9, [1, 3, 2, 0]), (7, [0, 2, 1, 3]), (10, [3, 0, 2, 1]), (8, [0, 3, 1, 2]), (9, [0, 3, 2, 1]), (9, [0, 1, 2, 3]), (10, [1, 2, 3, 0]), (10, [0, 2, 3, 1]), (9, [0, 1, 2, 3]), (6, [0, 1, 2, 3]), (10, [1, 3, 0, 2]), (6, [0, 1, 2, 3]), (8, [0, 1, 3, 2]), (6, [0, 1, 2, 3]), (10, [1, 3, 0, 2]), (6, [0, 1, 2, 3]), (10, [1, 3, 2, 0]), (10, [0, 2, 1, 3]), (10, [0, 2, 1, 3]), (10, [0, 2, 1, 3]), (10, [0, 2, 1, 3]), (8, [0, 1, 2, 3]), (10, [1, 3, 0, 2]), (10, [0, 2, 3, 1]), (8, [0, 1, 2, 3]), (5, [0, 1, 2, 3]), (5, [0, 1, 2, 3]), (7, [0, 3, 1, 2]), (7, [0, 1, 3, 2]), (7, [2, 0, 1, 3]), (7, [2, 0, 1, 3]), (10, [2, 0, 3, 1]), (7, [2, 0, 1, 3]), (6, [0, 2, 1, 3]), (6, [0, 2, 1, 3]), (8, [0, 2, 3, 1]), (10, [0, 3, 2, 1]), (6, [0, 1, 2, 3]), (7, [2, 3, 0, 1]), (9, [0, 2, 3, 1]), (7, [0, 1, 3, 2]), (7, [1, 0, 2, 3]), (7, [1, 0, 2, 3]), (7, [1, 0, 2, 3]), (10, [1, 0, 3, 2]), (9, [1, 2, 0, 3]), (9, [1, 2, 0, 3]), (10, [2, 0, 3, 1]), (10, [1, 0, 3, 2]), (10, [2, 1, 0, 3]), (10, [2, 1, 0, 3]), (10, [2, 1, 0, 3]), (10, [2, 1, 0, 3]), (8, [1, 0, 2, 3]), (8, [1, 0, 2, 3]), (10, [2, 3, 1, 0]), (10, [1, 0, 3, 2]), (6, [0, 1, 2, 3]), (6, [0, 1, 2, 3]), (10, [0, 3, 1, 2]), (8, [0, 1, 3, 2]), (10, [1, 2, 0, 3]), (10, [1, 2, 0, 3]), (10, [1, 2, 0, 3]), (10, [1, 2, 0, 3]), (6, [0, 1, 2, 3]), (6, [0, 1, 2, 3]), (10, [0, 3, 1, 2]), (10, [0, 3, 2, 1]), (8, [0, 1, 2, 3]), (10, [1, 2, 3, 0]), (10, [0, 3, 1, 2]), (8, [0, 1, 2, 3]), (6, [0, 1, 2, 3]), (7, [1, 3, 0, 2]), (7, [0, 3, 1, 2]), (9, [0, 1, 3, 2]), (8, [2, 0, 1, 3]), (8, [2, 0, 1, 3]), (10, [2, 0, 3, 1]), (10, [1, 3, 2, 0]), (8, [0, 2, 1, 3]), (10, [2, 1, 3, 0]), (8, [0, 2, 1, 3]), (10, [0, 3, 2, 1]), (7, [0, 1, 2, 3]), (9, [1, 2, 3, 0]), (9, [0, 2, 3, 1]), (9, [0, 1, 3, 2])]
theorem all_chunks {α : Type} {p : α → Bool} {l : List α} (hl : l.length = 256) (h : ∀ i, i < 16 → ((l.drop (16 * i)).take 16).all p = true) : l.all p = true := by
  refine List.all_eq_true.mpr fun x hx => ?_
  obtain ⟨j, hj, e⟩ := List.mem_iff_getElem.mp hx
  refine List.all_eq_true.mp (h (j / 16) (by omega)) x (List.mem_iff_getElem?.mpr ⟨j % 16, ?_⟩)
  rw [List.getElem?_take_of_lt (Nat.mod_lt _ (by decide)), List.getElem?_drop, Nat.div_add_mod j 16, List.getElem?_eq_getElem hj, e]
def tab : Nat → List (Int × List Int)
  | 1 => tab1
  | 2 => tab2
  | 3 => tab3
  | 4 => tab4
  | _ => []
end PL
end
section
set_option Elab.async false
set_option autoImplicit false
set_option linter.all false
set_option maxRecDepth 100000
set_option maxHeartbeats 0
/-! LB1: printed by gen_lb.py: the most handings, deputies by deputies. -/
namespace PL
theorem mrow1 (r : Row) : (allDs 1).map (fun ds => F_most_row [TI ds] r) = tab1.map fun q => some (D.tup [.int q.1, TI q.2], r) := by kernel_rfl
theorem mrow2 (r : Row) : (allDs 2).map (fun ds => F_most_row [TI ds] r) = tab2.map fun q => some (D.tup [.int q.1, TI q.2], r) := by kernel_rfl
theorem mrow3 (r : Row) : (allDs 3).map (fun ds => F_most_row [TI ds] r) = tab3.map fun q => some (D.tup [.int q.1, TI q.2], r) := by kernel_rfl
theorem mrow4_0 (r : Row) : (((allDs 4).drop (16 * 0)).take 16).map (fun ds => F_most_row [TI ds] r) = ((tab4.drop (16 * 0)).take 16).map fun q => some (D.tup [.int q.1, TI q.2], r) := by kernel_rfl
theorem mrow4_1 (r : Row) : (((allDs 4).drop (16 * 1)).take 16).map (fun ds => F_most_row [TI ds] r) = ((tab4.drop (16 * 1)).take 16).map fun q => some (D.tup [.int q.1, TI q.2], r) := by kernel_rfl
theorem mrow4_2 (r : Row) : (((allDs 4).drop (16 * 2)).take 16).map (fun ds => F_most_row [TI ds] r) = ((tab4.drop (16 * 2)).take 16).map fun q => some (D.tup [.int q.1, TI q.2], r) := by kernel_rfl
theorem mrow4_3 (r : Row) : (((allDs 4).drop (16 * 3)).take 16).map (fun ds => F_most_row [TI ds] r) = ((tab4.drop (16 * 3)).take 16).map fun q => some (D.tup [.int q.1, TI q.2], r) := by kernel_rfl
theorem mrow4_4 (r : Row) : (((allDs 4).drop (16 * 4)).take 16).map (fun ds => F_most_row [TI ds] r) = ((tab4.drop (16 * 4)).take 16).map fun q => some (D.tup [.int q.1, TI q.2], r) := by kernel_rfl
theorem mrow4_5 (r : Row) : (((allDs 4).drop (16 * 5)).take 16).map (fun ds => F_most_row [TI ds] r) = ((tab4.drop (16 * 5)).take 16).map fun q => some (D.tup [.int q.1, TI q.2], r) := by kernel_rfl
theorem mrow4_6 (r : Row) : (((allDs 4).drop (16 * 6)).take 16).map (fun ds => F_most_row [TI ds] r) = ((tab4.drop (16 * 6)).take 16).map fun q => some (D.tup [.int q.1, TI q.2], r) := by kernel_rfl
theorem mrow4_7 (r : Row) : (((allDs 4).drop (16 * 7)).take 16).map (fun ds => F_most_row [TI ds] r) = ((tab4.drop (16 * 7)).take 16).map fun q => some (D.tup [.int q.1, TI q.2], r) := by kernel_rfl
theorem mrow4_8 (r : Row) : (((allDs 4).drop (16 * 8)).take 16).map (fun ds => F_most_row [TI ds] r) = ((tab4.drop (16 * 8)).take 16).map fun q => some (D.tup [.int q.1, TI q.2], r) := by kernel_rfl
theorem mrow4_9 (r : Row) : (((allDs 4).drop (16 * 9)).take 16).map (fun ds => F_most_row [TI ds] r) = ((tab4.drop (16 * 9)).take 16).map fun q => some (D.tup [.int q.1, TI q.2], r) := by kernel_rfl
theorem mrow4_10 (r : Row) : (((allDs 4).drop (16 * 10)).take 16).map (fun ds => F_most_row [TI ds] r) = ((tab4.drop (16 * 10)).take 16).map fun q => some (D.tup [.int q.1, TI q.2], r) := by kernel_rfl
theorem mrow4_11 (r : Row) : (((allDs 4).drop (16 * 11)).take 16).map (fun ds => F_most_row [TI ds] r) = ((tab4.drop (16 * 11)).take 16).map fun q => some (D.tup [.int q.1, TI q.2], r) := by kernel_rfl
theorem mrow4_12 (r : Row) : (((allDs 4).drop (16 * 12)).take 16).map (fun ds => F_most_row [TI ds] r) = ((tab4.drop (16 * 12)).take 16).map fun q => some (D.tup [.int q.1, TI q.2], r) := by kernel_rfl
theorem mrow4_13 (r : Row) : (((allDs 4).drop (16 * 13)).take 16).map (fun ds => F_most_row [TI ds] r) = ((tab4.drop (16 * 13)).take 16).map fun q => some (D.tup [.int q.1, TI q.2], r) := by kernel_rfl
theorem mrow4_14 (r : Row) : (((allDs 4).drop (16 * 14)).take 16).map (fun ds => F_most_row [TI ds] r) = ((tab4.drop (16 * 14)).take 16).map fun q => some (D.tup [.int q.1, TI q.2], r) := by kernel_rfl
theorem mrow4_15 (r : Row) : (((allDs 4).drop (16 * 15)).take 16).map (fun ds => F_most_row [TI ds] r) = ((tab4.drop (16 * 15)).take 16).map fun q => some (D.tup [.int q.1, TI q.2], r) := by kernel_rfl
theorem chunks {α β γ : Type} {f : α → γ} {g : β → γ} {l : List α} {m : List β} (hl : l.length = 256) (hm : m.length = 256) (h : ∀ i, i < 16 → ((l.drop (16 * i)).take 16).map f = ((m.drop (16 * i)).take 16).map g) : l.map f = m.map g := by
  refine List.ext_getElem? fun j => ?_
  by_cases hj : j < 256
  · have e := congrArg (fun z => z[j % 16]?) (h (j / 16) (by omega))
    simp only [List.getElem?_map] at e
    have hlt : j % 16 < 16 := Nat.mod_lt _ (by decide)
    rw [List.getElem?_take_of_lt hlt, List.getElem?_take_of_lt hlt, List.getElem?_drop, List.getElem?_drop] at e
    have ej : 16 * (j / 16) + j % 16 = j := Nat.div_add_mod j 16
    rw [ej] at e
    rw [List.getElem?_map, List.getElem?_map]
    exact e
  · rw [List.getElem?_eq_none (by simp; omega), List.getElem?_eq_none (by simp; omega)]
theorem mrow4 (r : Row) : (allDs 4).map (fun ds => F_most_row [TI ds] r) = tab4.map fun q => some (D.tup [.int q.1, TI q.2], r) :=
  chunks (by decide +kernel) (by decide +kernel) fun i hi => by
    match i, hi with
    | 0, _ => exact mrow4_0 r
    | 1, _ => exact mrow4_1 r
    | 2, _ => exact mrow4_2 r
    | 3, _ => exact mrow4_3 r
    | 4, _ => exact mrow4_4 r
    | 5, _ => exact mrow4_5 r
    | 6, _ => exact mrow4_6 r
    | 7, _ => exact mrow4_7 r
    | 8, _ => exact mrow4_8 r
    | 9, _ => exact mrow4_9 r
    | 10, _ => exact mrow4_10 r
    | 11, _ => exact mrow4_11 r
    | 12, _ => exact mrow4_12 r
    | 13, _ => exact mrow4_13 r
    | 14, _ => exact mrow4_14 r
    | 15, _ => exact mrow4_15 r
    | i + 16, h => exact absurd h (by omega)
theorem mrow {n : Nat} (h1 : 1 ≤ n) (h4 : n ≤ 4) (r : Row) : (allDs n).map (fun ds => F_most_row [TI ds] r) = (tab n).map fun q => some (D.tup [.int q.1, TI q.2], r) := by
  match n, h1, h4 with
  | 1, _, _ => exact mrow1 r
  | 2, _, _ => exact mrow2 r
  | 3, _, _ => exact mrow3 r
  | 4, _, _ => exact mrow4 r
end PL
end
section
set_option Elab.async false
set_option autoImplicit false
set_option linter.all false
set_option maxRecDepth 100000
set_option maxHeartbeats 0
/-! LB2: printed by gen_lb.py: none is handed more. -/
namespace PL
def chkA (n : Nat) (ds : List Int) (q : Int × List Int) : Bool := (perms n).elem q.2 && (handed ds q.2 == q.1) && (perms n).all fun o => decide (handed ds o ≤ q.1)
theorem chkA1 : (((allDs 1).zip tab1).all fun q => chkA 1 q.1 q.2) = true := by decide +kernel
theorem chkA2 : (((allDs 2).zip tab2).all fun q => chkA 2 q.1 q.2) = true := by decide +kernel
theorem chkA3 : (((allDs 3).zip tab3).all fun q => chkA 3 q.1 q.2) = true := by decide +kernel
theorem chkA4_0 : ((((allDs 4).zip tab4).drop (16 * 0)).take 16).all (fun q => chkA 4 q.1 q.2) = true := by decide +kernel
theorem chkA4_1 : ((((allDs 4).zip tab4).drop (16 * 1)).take 16).all (fun q => chkA 4 q.1 q.2) = true := by decide +kernel
theorem chkA4_2 : ((((allDs 4).zip tab4).drop (16 * 2)).take 16).all (fun q => chkA 4 q.1 q.2) = true := by decide +kernel
theorem chkA4_3 : ((((allDs 4).zip tab4).drop (16 * 3)).take 16).all (fun q => chkA 4 q.1 q.2) = true := by decide +kernel
theorem chkA4_4 : ((((allDs 4).zip tab4).drop (16 * 4)).take 16).all (fun q => chkA 4 q.1 q.2) = true := by decide +kernel
theorem chkA4_5 : ((((allDs 4).zip tab4).drop (16 * 5)).take 16).all (fun q => chkA 4 q.1 q.2) = true := by decide +kernel
theorem chkA4_6 : ((((allDs 4).zip tab4).drop (16 * 6)).take 16).all (fun q => chkA 4 q.1 q.2) = true := by decide +kernel
theorem chkA4_7 : ((((allDs 4).zip tab4).drop (16 * 7)).take 16).all (fun q => chkA 4 q.1 q.2) = true := by decide +kernel
theorem chkA4_8 : ((((allDs 4).zip tab4).drop (16 * 8)).take 16).all (fun q => chkA 4 q.1 q.2) = true := by decide +kernel
theorem chkA4_9 : ((((allDs 4).zip tab4).drop (16 * 9)).take 16).all (fun q => chkA 4 q.1 q.2) = true := by decide +kernel
theorem chkA4_10 : ((((allDs 4).zip tab4).drop (16 * 10)).take 16).all (fun q => chkA 4 q.1 q.2) = true := by decide +kernel
theorem chkA4_11 : ((((allDs 4).zip tab4).drop (16 * 11)).take 16).all (fun q => chkA 4 q.1 q.2) = true := by decide +kernel
theorem chkA4_12 : ((((allDs 4).zip tab4).drop (16 * 12)).take 16).all (fun q => chkA 4 q.1 q.2) = true := by decide +kernel
theorem chkA4_13 : ((((allDs 4).zip tab4).drop (16 * 13)).take 16).all (fun q => chkA 4 q.1 q.2) = true := by decide +kernel
theorem chkA4_14 : ((((allDs 4).zip tab4).drop (16 * 14)).take 16).all (fun q => chkA 4 q.1 q.2) = true := by decide +kernel
theorem chkA4_15 : ((((allDs 4).zip tab4).drop (16 * 15)).take 16).all (fun q => chkA 4 q.1 q.2) = true := by decide +kernel
theorem chkA4 : (((allDs 4).zip tab4).all (fun q => chkA 4 q.1 q.2)) = true := all_chunks (by decide +kernel) fun i hi => by
    match i, hi with
    | 0, _ => exact chkA4_0
    | 1, _ => exact chkA4_1
    | 2, _ => exact chkA4_2
    | 3, _ => exact chkA4_3
    | 4, _ => exact chkA4_4
    | 5, _ => exact chkA4_5
    | 6, _ => exact chkA4_6
    | 7, _ => exact chkA4_7
    | 8, _ => exact chkA4_8
    | 9, _ => exact chkA4_9
    | 10, _ => exact chkA4_10
    | 11, _ => exact chkA4_11
    | 12, _ => exact chkA4_12
    | 13, _ => exact chkA4_13
    | 14, _ => exact chkA4_14
    | 15, _ => exact chkA4_15
    | i + 16, h => exact absurd h (by omega)
end PL
end
section
set_option Elab.async false
set_option autoImplicit false
set_option linter.all false
set_option maxRecDepth 100000
set_option maxHeartbeats 0
/-! LB3: printed by gen_lb.py: the law's names. -/
namespace PL
/-- the law's names -/
def dctD (ds o : List Int) : List (Int × D) := (ran ds.length).foldl (fun a k => putI a (nth o k) (.int (if (!(nth ds k == -1)) = true then nth o (nth ds k) else -1))) []
def intOf : Option D → Option Int
  | some (.int x) => some x
  | _ => none
def ln (ds o : List Int) : List Int := (ran ds.length).map fun k => (intOf (getI (dctD ds o) k)).getD 0
def dvB (n : Nat) (l : List Int) : Bool := (l.length == n) && (l.zip (ran n)).all fun q => decide (-1 ≤ q.1) && decide (q.1 < (n : Int)) && !(q.1 == q.2)
def chkC (n : Nat) (ds : List Int) : Bool := (perms n).all fun o => (ln ds o == wn ds o) && ((ran n).all fun k => (intOf (getI (dctD ds o) k)).isSome) && dvB n (wn ds o)

theorem chkC1 : ((allDs 1).all (chkC 1)) = true := by decide +kernel
theorem chkC2 : ((allDs 2).all (chkC 2)) = true := by decide +kernel
theorem chkC3 : ((allDs 3).all (chkC 3)) = true := by decide +kernel
theorem chkC4_0 : (((allDs 4).drop (16 * 0)).take 16).all (chkC 4) = true := by decide +kernel
theorem chkC4_1 : (((allDs 4).drop (16 * 1)).take 16).all (chkC 4) = true := by decide +kernel
theorem chkC4_2 : (((allDs 4).drop (16 * 2)).take 16).all (chkC 4) = true := by decide +kernel
theorem chkC4_3 : (((allDs 4).drop (16 * 3)).take 16).all (chkC 4) = true := by decide +kernel
theorem chkC4_4 : (((allDs 4).drop (16 * 4)).take 16).all (chkC 4) = true := by decide +kernel
theorem chkC4_5 : (((allDs 4).drop (16 * 5)).take 16).all (chkC 4) = true := by decide +kernel
theorem chkC4_6 : (((allDs 4).drop (16 * 6)).take 16).all (chkC 4) = true := by decide +kernel
theorem chkC4_7 : (((allDs 4).drop (16 * 7)).take 16).all (chkC 4) = true := by decide +kernel
theorem chkC4_8 : (((allDs 4).drop (16 * 8)).take 16).all (chkC 4) = true := by decide +kernel
theorem chkC4_9 : (((allDs 4).drop (16 * 9)).take 16).all (chkC 4) = true := by decide +kernel
theorem chkC4_10 : (((allDs 4).drop (16 * 10)).take 16).all (chkC 4) = true := by decide +kernel
theorem chkC4_11 : (((allDs 4).drop (16 * 11)).take 16).all (chkC 4) = true := by decide +kernel
theorem chkC4_12 : (((allDs 4).drop (16 * 12)).take 16).all (chkC 4) = true := by decide +kernel
theorem chkC4_13 : (((allDs 4).drop (16 * 13)).take 16).all (chkC 4) = true := by decide +kernel
theorem chkC4_14 : (((allDs 4).drop (16 * 14)).take 16).all (chkC 4) = true := by decide +kernel
theorem chkC4_15 : (((allDs 4).drop (16 * 15)).take 16).all (chkC 4) = true := by decide +kernel
theorem chkC4 : ((allDs 4).all (chkC 4)) = true := all_chunks (by decide +kernel) fun i hi => by
    match i, hi with
    | 0, _ => exact chkC4_0
    | 1, _ => exact chkC4_1
    | 2, _ => exact chkC4_2
    | 3, _ => exact chkC4_3
    | 4, _ => exact chkC4_4
    | 5, _ => exact chkC4_5
    | 6, _ => exact chkC4_6
    | 7, _ => exact chkC4_7
    | 8, _ => exact chkC4_8
    | 9, _ => exact chkC4_9
    | 10, _ => exact chkC4_10
    | 11, _ => exact chkC4_11
    | 12, _ => exact chkC4_12
    | 13, _ => exact chkC4_13
    | 14, _ => exact chkC4_14
    | 15, _ => exact chkC4_15
    | i + 16, h => exact absurd h (by omega)
end PL
end
section
set_option Elab.async false
set_option autoImplicit false
set_option linter.all false
set_option maxRecDepth 100000
set_option maxHeartbeats 0
/-! LB4: printed by gen_lb.py: shapes by numbers. -/
namespace PL
def code : List Int → Nat
  | [] => 0
  | d :: ds => (d + 1).toNat + 5 * code ds
def elN (x : Nat) : List Nat → Bool
  | [] => false
  | y :: ys => Nat.beq x y || elN x ys
def rowD (n : Nat) (ds : List Int) : Nat × Nat × List Nat := (code ds, code (shp n ds), (perms n).map fun o => code (wn ds o))
def maskN : List Nat → Nat
  | [] => 0
  | y :: ys => Nat.lor (2 ^ y) (maskN ys)
def chkE (cs : List (Nat × Nat)) (l : List (Nat × Nat × List Nat)) : Bool := (l.all fun a => cs.any fun c => Nat.beq c.1 a.2.1 && Nat.beq c.2 (maskN a.2.2)) && cs.all fun c => l.all fun b => Nat.beq c.1 b.2.1 == Nat.testBit c.2 b.1
theorem test_maskN (x : Nat) : ∀ l : List Nat, Nat.testBit (maskN l) x = elN x l
  | [] => Nat.zero_testBit x
  | y :: l => by
    show Nat.testBit (2 ^ y ||| maskN l) x = (Nat.beq x y || elN x l)
    rw [Nat.testBit_or, test_maskN x l, Nat.testBit_two_pow]
    congr 1
    rw [Bool.eq_iff_iff, decide_eq_true_eq, Nat.beq_eq]
    exact eq_comm
theorem pairs_of {cs : List (Nat × Nat)} {l : List (Nat × Nat × List Nat)} (h : chkE cs l = true) {a b : Nat × Nat × List Nat} (ha : a ∈ l) (hb : b ∈ l) : Nat.beq a.2.1 b.2.1 = elN b.1 a.2.2 := by
  obtain ⟨h1, h2⟩ := (Bool.and_eq_true _ _).mp h
  obtain ⟨c, hc, e⟩ := List.any_eq_true.mp (List.all_eq_true.mp h1 a ha)
  obtain ⟨e1, e2⟩ := (Bool.and_eq_true _ _).mp e
  have z := eq_of_beq (List.all_eq_true.mp (List.all_eq_true.mp h2 c hc) b hb)
  rw [Nat.eq_of_beq_eq_true e2, test_maskN, Nat.eq_of_beq_eq_true e1] at z
  exact z

def tabD1 : List (Nat × Nat × List Nat) := [
  (0, 0, [0])]
def tabE1 : List (Nat × Nat) := [
  (0, 1)]
theorem tabD1_eq : ((allDs 1).map (rowD 1) == tabD1) = true := by decide +kernel
theorem chkE1 : chkE tabE1 tabD1 = true := by decide +kernel
def tabD2 : List (Nat × Nat × List Nat) := [
  (0, 0, [0, 0]),
  (5, 5, [5, 2]),
  (2, 5, [2, 5]),
  (7, 7, [7, 7])]
def tabE2 : List (Nat × Nat) := [
  (0, 1),
  (5, 36),
  (7, 128)]
theorem tabD2_eq : ((allDs 2).map (rowD 2) == tabD2) = true := by decide +kernel
theorem chkE2 : chkE tabE2 tabD2 = true := by decide +kernel
def tabD3 : List (Nat × Nat × List Nat) := [
  (0, 0, [0, 0, 0, 0, 0, 0]),
  (25, 25, [25, 5, 50, 2, 15, 3]),
  (50, 25, [50, 15, 25, 3, 5, 2]),
  (5, 25, [5, 25, 2, 50, 3, 15]),
  (30, 30, [30, 30, 52, 52, 18, 18]),
  (55, 55, [55, 40, 27, 53, 8, 17]),
  (15, 25, [15, 50, 3, 25, 2, 5]),
  (40, 55, [40, 55, 53, 27, 17, 8]),
  (65, 65, [65, 65, 28, 28, 7, 7]),
  (2, 25, [2, 3, 5, 15, 25, 50]),
  (27, 55, [27, 8, 55, 17, 40, 53]),
  (52, 30, [52, 18, 30, 18, 30, 52]),
  (7, 65, [7, 28, 7, 65, 28, 65]),
  (32, 32, [32, 33, 57, 67, 43, 68]),
  (57, 32, [57, 43, 32, 68, 33, 67]),
  (17, 55, [17, 53, 8, 40, 27, 55]),
  (42, 42, [42, 58, 58, 42, 42, 58]),
  (67, 32, [67, 68, 33, 43, 32, 57]),
  (3, 25, [3, 2, 15, 5, 50, 25]),
  (28, 65, [28, 7, 65, 7, 65, 28]),
  (53, 55, [53, 17, 40, 8, 55, 27]),
  (8, 55, [8, 27, 17, 55, 53, 40]),
  (33, 32, [33, 32, 67, 57, 68, 43]),
  (58, 42, [58, 42, 42, 58, 58, 42]),
  (18, 30, [18, 52, 18, 30, 52, 30]),
  (43, 32, [43, 57, 68, 32, 67, 33]),
  (68, 32, [68, 67, 43, 33, 57, 32])]
def tabE3 : List (Nat × Nat) := [
  (0, 1),
  (25, 1125899940429868),
  (30, 4503600701374464),
  (55, 45037095919681792),
  (65, 36893488147687538816),
  (32, 442865981766083018752),
  (42, 288234774198222848)]
theorem tabD3_eq : ((allDs 3).map (rowD 3) == tabD3) = true := by decide +kernel
theorem chkE3 : chkE tabE3 tabD3 = true := by decide +kernel
def tabD4 : List (Nat × Nat × List Nat) := [
  (0, 0, [0, 0, 0, 0, 0, 0, 0, 0, 0, 0, 0, 0, 0, 0, 0, 0, 0, 0, 0, 0, 0, 0, 0, 0]),
  (125, 125, [125, 25, 125, 5, 25, 5, 250, 50, 250, 2, 50, 2, 375, 15, 375, 3, 15, 3, 100, 20, 100, 4, 20, 4]),
  (250, 125, [250, 50, 375, 15, 100, 20, 125, 25, 375, 3, 100, 4, 125, 5, 250, 2, 20, 4, 25, 5, 50, 2, 15, 3]),
  (375, 125, [375, 100, 250, 20, 50, 15, 375, 100, 125, 4, 25, 3, 250, 20, 125, 4, 5, 2, 50, 15, 25, 3, 5, 2]),
  (25, 125, [25, 125, 5, 125, 5, 25, 50, 250, 2, 250, 2, 50, 15, 375, 3, 375, 3, 15, 20, 100, 4, 100, 4, 20]),
  (150, 150, [150, 150, 130, 130, 30, 30, 300, 300, 252, 252, 52, 52, 390, 390, 378, 378, 18, 18, 120, 120, 104, 104, 24, 24]),
  (275, 275, [275, 175, 380, 140, 105, 45, 175, 275, 377, 253, 102, 54, 140, 380, 253, 377, 23, 19, 45, 105, 54, 102, 19, 23]),
  (400, 400, [400, 225, 255, 145, 55, 40, 425, 350, 127, 254, 27, 53, 265, 395, 128, 379, 8, 17, 70, 115, 29, 103, 9, 22]),
  (50, 125, [50, 250, 15, 375, 20, 100, 25, 125, 3, 375, 4, 100, 5, 125, 2, 250, 4, 20, 5, 25, 2, 50, 3, 15]),
  (175, 275, [175, 275, 140, 380, 45, 105, 275, 175, 253, 377, 54, 102, 380, 140, 377, 253, 19, 23, 105, 45, 102, 54, 23, 19]),
  (300, 150, [300, 300, 390, 390, 120, 120, 150, 150, 378, 378, 104, 104, 130, 130, 252, 252, 24, 24, 30, 30, 52, 52, 18, 18]),
  (425, 400, [425, 350, 265, 395, 70, 115, 400, 225, 128, 379, 29, 103, 255, 145, 127, 254, 9, 22, 55, 40, 27, 53, 8, 17]),
  (100, 125, [100, 375, 20, 250, 15, 50, 100, 375, 4, 125, 3, 25, 20, 250, 4, 125, 2, 5, 15, 50, 3, 25, 2, 5]),
  (225, 400, [225, 400, 145, 255, 40, 55, 350, 425, 254, 127, 53, 27, 395, 265, 379, 128, 17, 8, 115, 70, 103, 29, 22, 9]),
  (350, 400, [350, 425, 395, 265, 115, 70, 225, 400, 379, 128, 103, 29, 145, 255, 254, 127, 22, 9, 40, 55, 53, 27, 17, 8]),
  (475, 475, [475, 475, 270, 270, 65, 65, 475, 475, 129, 129, 28, 28, 270, 270, 129, 129, 7, 7, 65, 65, 28, 28, 7, 7]),
  (5, 125, [5, 5, 25, 25, 125, 125, 2, 2, 50, 50, 250, 250, 3, 3, 15, 15, 375, 375, 4, 4, 20, 20, 100, 100]),
  (130, 150, [130, 30, 150, 30, 150, 130, 252, 52, 300, 52, 300, 252, 378, 18, 390, 18, 390, 378, 104, 24, 120, 24, 120, 104]),
  (255, 400, [255, 55, 400, 40, 225, 145, 127, 27, 425, 53, 350, 254, 128, 8, 265, 17, 395, 379, 29, 9, 70, 22, 115, 103]),
  (380, 275, [380, 105, 275, 45, 175, 140, 377, 102, 175, 54, 275, 253, 253, 23, 140, 19, 380, 377, 54, 19, 45, 23, 105, 102]),
  (30, 150, [30, 130, 30, 150, 130, 150, 52, 252, 52, 300, 252, 300, 18, 378, 18, 390, 378, 390, 24, 104, 24, 120, 104, 120]),
  (155, 155, [155, 155, 155, 155, 155, 155, 302, 302, 302, 302, 302, 302, 393, 393, 393, 393, 393, 393, 124, 124, 124, 124, 124, 124]),
  (280, 280, [280, 180, 405, 165, 230, 170, 177, 277, 427, 303, 352, 304, 143, 383, 268, 392, 398, 394, 49, 109, 74, 122, 119, 123]),
  (405, 280, [405, 230, 280, 170, 180, 165, 427, 352, 177, 304, 277, 303, 268, 398, 143, 394, 383, 392, 74, 119, 49, 123, 109, 122]),
  (55, 400, [55, 255, 40, 400, 145, 225, 27, 127, 53, 425, 254, 350, 8, 128, 17, 265, 379, 395, 9, 29, 22, 70, 103, 115]),
  (180, 280, [180, 280, 165, 405, 170, 230, 277, 177, 303, 427, 304, 352, 383, 143, 392, 268, 394, 398, 109, 49, 122, 74, 123, 119]),
  (305, 305, [305, 305, 415, 415, 245, 245, 152, 152, 428, 428, 354, 354, 133, 133, 267, 267, 399, 399, 34, 34, 72, 72, 118, 118]),
  (430, 430, [430, 355, 290, 420, 195, 240, 402, 227, 178, 429, 279, 353, 258, 148, 142, 269, 384, 397, 59, 44, 47, 73, 108, 117]),
  (105, 275, [105, 380, 45, 275, 140, 175, 102, 377, 54, 175, 253, 275, 23, 253, 19, 140, 377, 380, 19, 54, 23, 45, 102, 105]),
  (230, 280, [230, 405, 170, 280, 165, 180, 352, 427, 304, 177, 303, 277, 398, 268, 394, 143, 392, 383, 119, 74, 123, 49, 122, 109]),
  (355, 430, [355, 430, 420, 290, 240, 195, 227, 402, 429, 178, 353, 279, 148, 258, 269, 142, 397, 384, 44, 59, 73, 47, 117, 108]),
  (480, 480, [480, 480, 295, 295, 190, 190, 477, 477, 179, 179, 278, 278, 273, 273, 144, 144, 382, 382, 69, 69, 48, 48, 107, 107]),
  (15, 125, [15, 20, 50, 100, 250, 375, 3, 4, 25, 100, 125, 375, 2, 4, 5, 20, 125, 250, 2, 3, 5, 15, 25, 50]),
  (140, 275, [140, 45, 175, 105, 275, 380, 253, 54, 275, 102, 175, 377, 377, 19, 380, 23, 140, 253, 102, 23, 105, 19, 45, 54]),
  (265, 400, [265, 70, 425, 115, 350, 395, 128, 29, 400, 103, 225, 379, 127, 9, 255, 22, 145, 254, 27, 8, 55, 17, 40, 53]),
  (390, 150, [390, 120, 300, 120, 300, 390, 378, 104, 150, 104, 150, 378, 252, 24, 130, 24, 130, 252, 52, 18, 30, 18, 30, 52]),
  (40, 400, [40, 145, 55, 225, 255, 400, 53, 254, 27, 350, 127, 425, 17, 379, 8, 395, 128, 265, 22, 103, 9, 115, 29, 70]),
  (165, 280, [165, 170, 180, 230, 280, 405, 303, 304, 277, 352, 177, 427, 392, 394, 383, 398, 143, 268, 122, 123, 109, 119, 49, 74]),
  (290, 430, [290, 195, 430, 240, 355, 420, 178, 279, 402, 353, 227, 429, 142, 384, 258, 397, 148, 269, 47, 108, 59, 117, 44, 73]),
  (415, 305, [415, 245, 305, 245, 305, 415, 428, 354, 152, 354, 152, 428, 267, 399, 133, 399, 133, 267, 72, 118, 34, 118, 34, 72]),
  (65, 475, [65, 270, 65, 475, 270, 475, 28, 129, 28, 475, 129, 475, 7, 129, 7, 270, 129, 270, 7, 28, 7, 65, 28, 65]),
  (190, 480, [190, 295, 190, 480, 295, 480, 278, 179, 278, 477, 179, 477, 382, 144, 382, 273, 144, 273, 107, 48, 107, 69, 48, 69]),
  (315, 315, [315, 320, 440, 490, 370, 495, 153, 154, 403, 478, 229, 479, 132, 134, 257, 272, 149, 274, 32, 33, 57, 67, 43, 68]),
  (440, 315, [440, 370, 315, 495, 320, 490, 403, 229, 153, 479, 154, 478, 257, 149, 132, 274, 134, 272, 57, 43, 32, 68, 33, 67]),
  (115, 400, [115, 395, 70, 350, 265, 425, 103, 379, 29, 225, 128, 400, 22, 254, 9, 145, 127, 255, 17, 53, 8, 40, 27, 55]),
  (240, 430, [240, 420, 195, 355, 290, 430, 353, 429, 279, 227, 178, 402, 397, 269, 384, 148, 142, 258, 117, 73, 108, 44, 47, 59]),
  (365, 365, [365, 445, 445, 365, 365, 445, 228, 404, 404, 228, 228, 404, 147, 259, 259, 147, 147, 259, 42, 58, 58, 42, 42, 58]),
  (490, 315, [490, 495, 320, 370, 315, 440, 478, 479, 154, 229, 153, 403, 272, 274, 134, 149, 132, 257, 67, 68, 33, 43, 32, 57]),
  (20, 125, [20, 15, 100, 50, 375, 250, 4, 3, 100, 25, 375, 125, 4, 2, 20, 5, 250, 125, 3, 2, 15, 5, 50, 25]),
  (145, 400, [145, 40, 225, 55, 400, 255, 254, 53, 350, 27, 425, 127, 379, 17, 395, 8, 265, 128, 103, 22, 115, 9, 70, 29]),
  (270, 475, [270, 65, 475, 65, 475, 270, 129, 28, 475, 28, 475, 129, 129, 7, 270, 7, 270, 129, 28, 7, 65, 7, 65, 28]),
  (395, 400, [395, 115, 350, 70, 425, 265, 379, 103, 225, 29, 400, 128, 254, 22, 145, 9, 255, 127, 53, 17, 40, 8, 55, 27]),
  (45, 275, [45, 140, 105, 175, 380, 275, 54, 253, 102, 275, 377, 175, 19, 377, 23, 380, 253, 140, 23, 102, 19, 105, 54, 45]),
  (170, 280, [170, 165, 230, 180, 405, 280, 304, 303, 352, 277, 427, 177, 394, 392, 398, 383, 268, 143, 123, 122, 119, 109, 74, 49]),
  (295, 480, [295, 190, 480, 190, 480, 295, 179, 278, 477, 278, 477, 179, 144, 382, 273, 382, 273, 144, 48, 107, 69, 107, 69, 48]),
  (420, 430, [420, 240, 355, 195, 430, 290, 429, 353, 227, 279, 402, 178, 269, 397, 148, 384, 258, 142, 73, 117, 44, 108, 59, 47]),
  (70, 400, [70, 265, 115, 425, 395, 350, 29, 128, 103, 400, 379, 225, 9, 127, 22, 255, 254, 145, 8, 27, 17, 55, 53, 40]),
  (195, 430, [195, 290, 240, 430, 420, 355, 279, 178, 353, 402, 429, 227, 384, 142, 397, 258, 269, 148, 108, 47, 117, 59, 73, 44]),
  (320, 315, [320, 315, 490, 440, 495, 370, 154, 153, 478, 403, 479, 229, 134, 132, 272, 257, 274, 149, 33, 32, 67, 57, 68, 43]),
  (445, 365, [445, 365, 365, 445, 445, 365, 404, 228, 228, 404, 404, 228, 259, 147, 147, 259, 259, 147, 58, 42, 42, 58, 58, 42]),
  (120, 150, [120, 390, 120, 300, 390, 300, 104, 378, 104, 150, 378, 150, 24, 252, 24, 130, 252, 130, 18, 52, 18, 30, 52, 30]),
  (245, 305, [245, 415, 245, 305, 415, 305, 354, 428, 354, 152, 428, 152, 399, 267, 399, 133, 267, 133, 118, 72, 118, 34, 72, 34]),
  (370, 315, [370, 440, 495, 315, 490, 320, 229, 403, 479, 153, 478, 154, 149, 257, 274, 132, 272, 134, 43, 57, 68, 32, 67, 33]),
  (495, 315, [495, 490, 370, 320, 440, 315, 479, 478, 229, 154, 403, 153, 274, 272, 149, 134, 257, 132, 68, 67, 43, 33, 57, 32]),
  (2, 125, [2, 2, 3, 3, 4, 4, 5, 5, 15, 15, 20, 20, 25, 25, 50, 50, 100, 100, 125, 125, 250, 250, 375, 375]),
  (127, 400, [127, 27, 128, 8, 29, 9, 255, 55, 265, 17, 70, 22, 400, 40, 425, 53, 115, 103, 225, 145, 350, 254, 395, 379]),
  (252, 150, [252, 52, 378, 18, 104, 24, 130, 30, 390, 18, 120, 24, 150, 30, 300, 52, 120, 104, 150, 130, 300, 252, 390, 378]),
  (377, 275, [377, 102, 253, 23, 54, 19, 380, 105, 140, 19, 45, 23, 275, 45, 175, 54, 105, 102, 175, 140, 275, 253, 380, 377]),
  (27, 400, [27, 127, 8, 128, 9, 29, 55, 255, 17, 265, 22, 70, 40, 400, 53, 425, 103, 115, 145, 225, 254, 350, 379, 395]),
  (152, 305, [152, 152, 133, 133, 34, 34, 305, 305, 267, 267, 72, 72, 415, 415, 428, 428, 118, 118, 245, 245, 354, 354, 399, 399]),
  (277, 280, [277, 177, 383, 143, 109, 49, 180, 280, 392, 268, 122, 74, 165, 405, 303, 427, 123, 119, 170, 230, 304, 352, 394, 398]),
  (402, 430, [402, 227, 258, 148, 59, 44, 430, 355, 142, 269, 47, 73, 290, 420, 178, 429, 108, 117, 195, 240, 279, 353, 384, 397]),
  (52, 150, [52, 252, 18, 378, 24, 104, 30, 130, 18, 390, 24, 120, 30, 150, 52, 300, 104, 120, 130, 150, 252, 300, 378, 390]),
  (177, 280, [177, 277, 143, 383, 49, 109, 280, 180, 268, 392, 74, 122, 405, 165, 427, 303, 119, 123, 230, 170, 352, 304, 398, 394]),
  (302, 155, [302, 302, 393, 393, 124, 124, 155, 155, 393, 393, 124, 124, 155, 155, 302, 302, 124, 124, 155, 155, 302, 302, 393, 393]),
  (427, 280, [427, 352, 268, 398, 74, 119, 405, 230, 143, 394, 49, 123, 280, 170, 177, 304, 109, 122, 180, 165, 277, 303, 383, 392]),
  (102, 275, [102, 377, 23, 253, 19, 54, 105, 380, 19, 140, 23, 45, 45, 275, 54, 175, 102, 105, 140, 175, 253, 275, 377, 380]),
  (227, 430, [227, 402, 148, 258, 44, 59, 355, 430, 269, 142, 73, 47, 420, 290, 429, 178, 117, 108, 240, 195, 353, 279, 397, 384]),
  (352, 280, [352, 427, 398, 268, 119, 74, 230, 405, 394, 143, 123, 49, 170, 280, 304, 177, 122, 109, 165, 180, 303, 277, 392, 383]),
  (477, 480, [477, 477, 273, 273, 69, 69, 480, 480, 144, 144, 48, 48, 295, 295, 179, 179, 107, 107, 190, 190, 278, 278, 382, 382]),
  (7, 475, [7, 7, 28, 28, 129, 129, 7, 7, 65, 65, 270, 270, 28, 28, 65, 65, 475, 475, 129, 129, 270, 270, 475, 475]),
  (132, 315, [132, 32, 153, 33, 154, 134, 257, 57, 315, 67, 320, 272, 403, 43, 440, 68, 490, 478, 229, 149, 370, 274, 495, 479]),
  (257, 315, [257, 57, 403, 43, 229, 149, 132, 32, 440, 68, 370, 274, 153, 33, 315, 67, 495, 479, 154, 134, 320, 272, 490, 478]),
  (382, 480, [382, 107, 278, 48, 179, 144, 382, 107, 190, 69, 295, 273, 278, 48, 190, 69, 480, 477, 179, 144, 295, 273, 480, 477]),
  (32, 315, [32, 132, 33, 153, 134, 154, 57, 257, 67, 315, 272, 320, 43, 403, 68, 440, 478, 490, 149, 229, 274, 370, 479, 495]),
  (157, 157, [157, 157, 158, 158, 159, 159, 307, 307, 317, 317, 322, 322, 418, 418, 443, 443, 493, 493, 249, 249, 374, 374, 499, 499]),
  (282, 282, [282, 182, 408, 168, 234, 174, 182, 282, 442, 318, 372, 324, 168, 408, 318, 442, 498, 494, 174, 234, 324, 372, 494, 498]),
  (407, 407, [407, 232, 283, 173, 184, 169, 432, 357, 192, 319, 297, 323, 293, 423, 193, 444, 483, 492, 199, 244, 299, 373, 484, 497]),
  (57, 315, [57, 257, 43, 403, 149, 229, 32, 132, 68, 440, 274, 370, 33, 153, 67, 315, 479, 495, 134, 154, 272, 320, 478, 490]),
  (182, 282, [182, 282, 168, 408, 174, 234, 282, 182, 318, 442, 324, 372, 408, 168, 442, 318, 494, 498, 234, 174, 372, 324, 498, 494]),
  (307, 157, [307, 307, 418, 418, 249, 249, 157, 157, 443, 443, 374, 374, 158, 158, 317, 317, 499, 499, 159, 159, 322, 322, 493, 493]),
  (432, 407, [432, 357, 293, 423, 199, 244, 407, 232, 193, 444, 299, 373, 283, 173, 192, 319, 484, 497, 184, 169, 297, 323, 483, 492]),
  (107, 480, [107, 382, 48, 278, 144, 179, 107, 382, 69, 190, 273, 295, 48, 278, 69, 190, 477, 480, 144, 179, 273, 295, 477, 480]),
  (232, 407, [232, 407, 173, 283, 169, 184, 357, 432, 319, 192, 323, 297, 423, 293, 444, 193, 492, 483, 244, 199, 373, 299, 497, 484]),
  (357, 407, [357, 432, 423, 293, 244, 199, 232, 407, 444, 193, 373, 299, 173, 283, 319, 192, 497, 484, 169, 184, 323, 297, 492, 483]),
  (482, 482, [482, 482, 298, 298, 194, 194, 482, 482, 194, 194, 298, 298, 298, 298, 194, 194, 482, 482, 194, 194, 298, 298, 482, 482]),
  (17, 400, [17, 22, 53, 103, 254, 379, 8, 9, 40, 115, 145, 395, 27, 29, 55, 70, 225, 350, 127, 128, 255, 265, 400, 425]),
  (142, 430, [142, 47, 178, 108, 279, 384, 258, 59, 290, 117, 195, 397, 402, 44, 430, 73, 240, 353, 227, 148, 355, 269, 420, 429]),
  (267, 305, [267, 72, 428, 118, 354, 399, 133, 34, 415, 118, 245, 399, 152, 34, 305, 72, 245, 354, 152, 133, 305, 267, 415, 428]),
  (392, 280, [392, 122, 303, 123, 304, 394, 383, 109, 165, 119, 170, 398, 277, 49, 180, 74, 230, 352, 177, 143, 280, 268, 405, 427]),
  (42, 365, [42, 147, 58, 228, 259, 404, 58, 259, 42, 365, 147, 445, 42, 404, 58, 445, 228, 365, 147, 228, 259, 365, 404, 445]),
  (167, 167, [167, 172, 183, 233, 284, 409, 308, 309, 292, 367, 197, 447, 417, 419, 433, 448, 243, 368, 247, 248, 359, 369, 424, 449]),
  (292, 167, [292, 197, 433, 243, 359, 424, 183, 284, 417, 368, 247, 449, 167, 409, 308, 447, 248, 369, 172, 233, 309, 367, 419, 448]),
  (417, 167, [417, 247, 308, 248, 309, 419, 433, 359, 167, 369, 172, 448, 292, 424, 183, 449, 233, 367, 197, 243, 284, 368, 409, 447]),
  (67, 315, [67, 272, 68, 478, 274, 479, 33, 134, 43, 490, 149, 495, 32, 154, 57, 320, 229, 370, 132, 153, 257, 315, 403, 440]),
  (192, 407, [192, 297, 193, 483, 299, 484, 283, 184, 293, 492, 199, 497, 407, 169, 432, 323, 244, 373, 232, 173, 357, 319, 423, 444]),
  (317, 157, [317, 322, 443, 493, 374, 499, 158, 159, 418, 493, 249, 499, 157, 159, 307, 322, 249, 374, 157, 158, 307, 317, 418, 443]),
  (442, 282, [442, 372, 318, 498, 324, 494, 408, 234, 168, 494, 174, 498, 282, 174, 182, 324, 234, 372, 182, 168, 282, 318, 408, 442]),
  (117, 430, [117, 397, 73, 353, 269, 429, 108, 384, 44, 240, 148, 420, 47, 279, 59, 195, 227, 355, 142, 178, 258, 290, 402, 430]),
  (242, 242, [242, 422, 198, 358, 294, 434, 358, 434, 294, 242, 198, 422, 422, 294, 434, 198, 242, 358, 242, 198, 358, 294, 422, 434]),
  (367, 167, [367, 447, 448, 368, 369, 449, 233, 409, 419, 243, 248, 424, 172, 284, 309, 197, 247, 359, 167, 183, 308, 292, 417, 433]),
  (492, 407, [492, 497, 323, 373, 319, 444, 483, 484, 169, 244, 173, 423, 297, 299, 184, 199, 232, 357, 192, 193, 283, 293, 407, 432]),
  (22, 400, [22, 17, 103, 53, 379, 254, 9, 8, 115, 40, 395, 145, 29, 27, 70, 55, 350, 225, 128, 127, 265, 255, 425, 400]),
  (147, 365, [147, 42, 228, 58, 404, 259, 259, 58, 365, 42, 445, 147, 404, 42, 445, 58, 365, 228, 228, 147, 365, 259, 445, 404]),
  (272, 315, [272, 67, 478, 68, 479, 274, 134, 33, 490, 43, 495, 149, 154, 32, 320, 57, 370, 229, 153, 132, 315, 257, 440, 403]),
  (397, 430, [397, 117, 353, 73, 429, 269, 384, 108, 240, 44, 420, 148, 279, 47, 195, 59, 355, 227, 178, 142, 290, 258, 430, 402]),
  (47, 430, [47, 142, 108, 178, 384, 279, 59, 258, 117, 290, 397, 195, 44, 402, 73, 430, 353, 240, 148, 227, 269, 355, 429, 420]),
  (172, 167, [172, 167, 233, 183, 409, 284, 309, 308, 367, 292, 447, 197, 419, 417, 448, 433, 368, 243, 248, 247, 369, 359, 449, 424]),
  (297, 407, [297, 192, 483, 193, 484, 299, 184, 283, 492, 293, 497, 199, 169, 407, 323, 432, 373, 244, 173, 232, 319, 357, 444, 423]),
  (422, 242, [422, 242, 358, 198, 434, 294, 434, 358, 242, 294, 422, 198, 294, 422, 198, 434, 358, 242, 198, 242, 294, 358, 434, 422]),
  (72, 305, [72, 267, 118, 428, 399, 354, 34, 133, 118, 415, 399, 245, 34, 152, 72, 305, 354, 245, 133, 152, 267, 305, 428, 415]),
  (197, 167, [197, 292, 243, 433, 424, 359, 284, 183, 368, 417, 449, 247, 409, 167, 447, 308, 369, 248, 233, 172, 367, 309, 448, 419]),
  (322, 157, [322, 317, 493, 443, 499, 374, 159, 158, 493, 418, 499, 249, 159, 157, 322, 307, 374, 249, 158, 157, 317, 307, 443, 418]),
  (447, 167, [447, 367, 368, 448, 449, 369, 409, 233, 243, 419, 424, 248, 284, 172, 197, 309, 359, 247, 183, 167, 292, 308, 433, 417]),
  (122, 280, [122, 392, 123, 303, 394, 304, 109, 383, 119, 165, 398, 170, 49, 277, 74, 180, 352, 230, 143, 177, 268, 280, 427, 405]),
  (247, 167, [247, 417, 248, 308, 419, 309, 359, 433, 369, 167, 448, 172, 424, 292, 449, 183, 367, 233, 243, 197, 368, 284, 447, 409]),
  (372, 282, [372, 442, 498, 318, 494, 324, 234, 408, 494, 168, 498, 174, 174, 282, 324, 182, 372, 234, 168, 182, 318, 282, 442, 408]),
  (497, 407, [497, 492, 373, 323, 444, 319, 484, 483, 244, 169, 423, 173, 299, 297, 199, 184, 357, 232, 193, 192, 293, 283, 432, 407]),
  (3, 125, [3, 4, 2, 4, 2, 3, 15, 20, 5, 20, 5, 15, 50, 100, 25, 100, 25, 50, 250, 375, 125, 375, 125, 250]),
  (128, 400, [128, 29, 127, 9, 27, 8, 265, 70, 255, 22, 55, 17, 425, 115, 400, 103, 40, 53, 350, 395, 225, 379, 145, 254]),
  (253, 275, [253, 54, 377, 19, 102, 23, 140, 45, 380, 23, 105, 19, 175, 105, 275, 102, 45, 54, 275, 380, 175, 377, 140, 253]),
  (378, 150, [378, 104, 252, 24, 52, 18, 390, 120, 130, 24, 30, 18, 300, 120, 150, 104, 30, 52, 300, 390, 150, 378, 130, 252]),
  (28, 475, [28, 129, 7, 129, 7, 28, 65, 270, 7, 270, 7, 65, 65, 475, 28, 475, 28, 65, 270, 475, 129, 475, 129, 270]),
  (153, 315, [153, 154, 132, 134, 32, 33, 315, 320, 257, 272, 57, 67, 440, 490, 403, 478, 43, 68, 370, 495, 229, 479, 149, 274]),
  (278, 480, [278, 179, 382, 144, 107, 48, 190, 295, 382, 273, 107, 69, 190, 480, 278, 477, 48, 69, 295, 480, 179, 477, 144, 273]),
  (403, 315, [403, 229, 257, 149, 57, 43, 440, 370, 132, 274, 32, 68, 315, 495, 153, 479, 33, 67, 320, 490, 154, 478, 134, 272]),
  (53, 400, [53, 254, 17, 379, 22, 103, 40, 145, 8, 395, 9, 115, 55, 225, 27, 350, 29, 70, 255, 400, 127, 425, 128, 265]),
  (178, 430, [178, 279, 142, 384, 47, 108, 290, 195, 258, 397, 59, 117, 430, 240, 402, 353, 44, 73, 355, 420, 227, 429, 148, 269]),
  (303, 280, [303, 304, 392, 394, 122, 123, 165, 170, 383, 398, 109, 119, 180, 230, 277, 352, 49, 74, 280, 405, 177, 427, 143, 268]),
  (428, 305, [428, 354, 267, 399, 72, 118, 415, 245, 133, 399, 34, 118, 305, 245, 152, 354, 34, 72, 305, 415, 152, 428, 133, 267]),
  (103, 400, [103, 379, 22, 254, 17, 53, 115, 395, 9, 145, 8, 40, 70, 350, 29, 225, 27, 55, 265, 425, 128, 400, 127, 255]),
  (228, 365, [228, 404, 147, 259, 42, 58, 365, 445, 259, 147, 58, 42, 445, 365, 404, 228, 42, 58, 365, 445, 228, 404, 147, 259]),
  (353, 430, [353, 429, 397, 269, 117, 73, 240, 420, 384, 148, 108, 44, 195, 355, 279, 227, 47, 59, 290, 430, 178, 402, 142, 258]),
  (478, 315, [478, 479, 272, 274, 67, 68, 490, 495, 134, 149, 33, 43, 320, 370, 154, 229, 32, 57, 315, 440, 153, 403, 132, 257]),
  (8, 400, [8, 9, 27, 29, 127, 128, 17, 22, 55, 70, 255, 265, 53, 103, 40, 115, 400, 425, 254, 379, 145, 395, 225, 350]),
  (133, 305, [133, 34, 152, 34, 152, 133, 267, 72, 305, 72, 305, 267, 428, 118, 415, 118, 415, 428, 354, 399, 245, 399, 245, 354]),
  (258, 430, [258, 59, 402, 44, 227, 148, 142, 47, 430, 73, 355, 269, 178, 108, 290, 117, 420, 429, 279, 384, 195, 397, 240, 353]),
  (383, 280, [383, 109, 277, 49, 177, 143, 392, 122, 180, 74, 280, 268, 303, 123, 165, 119, 405, 427, 304, 394, 170, 398, 230, 352]),
  (33, 315, [33, 134, 32, 154, 132, 153, 67, 272, 57, 320, 257, 315, 68, 478, 43, 490, 403, 440, 274, 479, 149, 495, 229, 370]),
  (158, 157, [158, 159, 157, 159, 157, 158, 317, 322, 307, 322, 307, 317, 443, 493, 418, 493, 418, 443, 374, 499, 249, 499, 249, 374]),
  (283, 407, [283, 184, 407, 169, 232, 173, 192, 297, 432, 323, 357, 319, 193, 483, 293, 492, 423, 444, 299, 484, 199, 497, 244, 373]),
  (408, 282, [408, 234, 282, 174, 182, 168, 442, 372, 182, 324, 282, 318, 318, 498, 168, 494, 408, 442, 324, 494, 174, 498, 234, 372]),
  (58, 365, [58, 259, 42, 404, 147, 228, 42, 147, 58, 445, 259, 365, 58, 228, 42, 365, 404, 445, 259, 404, 147, 445, 228, 365]),
  (183, 167, [183, 284, 167, 409, 172, 233, 292, 197, 308, 447, 309, 367, 433, 243, 417, 368, 419, 448, 359, 424, 247, 449, 248, 369]),
  (308, 167, [308, 309, 417, 419, 247, 248, 167, 172, 433, 448, 359, 369, 183, 233, 292, 367, 424, 449, 284, 409, 197, 447, 243, 368]),
  (433, 167, [433, 359, 292, 424, 197, 243, 417, 247, 183, 449, 284, 368, 308, 248, 167, 369, 409, 447, 309, 419, 172, 448, 233, 367]),
  (108, 430, [108, 384, 47, 279, 142, 178, 117, 397, 59, 195, 258, 290, 73, 353, 44, 240, 402, 430, 269, 429, 148, 420, 227, 355]),
  (233, 167, [233, 409, 172, 284, 167, 183, 367, 447, 309, 197, 308, 292, 448, 368, 419, 243, 417, 433, 369, 449, 248, 424, 247, 359]),
  (358, 242, [358, 434, 422, 294, 242, 198, 242, 422, 434, 198, 358, 294, 198, 358, 294, 242, 422, 434, 294, 434, 198, 422, 242, 358]),
  (483, 407, [483, 484, 297, 299, 192, 193, 492, 497, 184, 199, 283, 293, 323, 373, 169, 244, 407, 432, 319, 444, 173, 423, 232, 357]),
  (18, 150, [18, 24, 52, 104, 252, 378, 18, 24, 30, 120, 130, 390, 52, 104, 30, 120, 150, 300, 252, 378, 130, 390, 150, 300]),
  (143, 280, [143, 49, 177, 109, 277, 383, 268, 74, 280, 122, 180, 392, 427, 119, 405, 123, 165, 303, 352, 398, 230, 394, 170, 304]),
  (268, 280, [268, 74, 427, 119, 352, 398, 143, 49, 405, 123, 230, 394, 177, 109, 280, 122, 170, 304, 277, 383, 180, 392, 165, 303]),
  (393, 155, [393, 124, 302, 124, 302, 393, 393, 124, 155, 124, 155, 393, 302, 124, 155, 124, 155, 302, 302, 393, 155, 393, 155, 302]),
  (43, 315, [43, 149, 57, 229, 257, 403, 68, 274, 32, 370, 132, 440, 67, 479, 33, 495, 153, 315, 272, 478, 134, 490, 154, 320]),
  (168, 282, [168, 174, 182, 234, 282, 408, 318, 324, 282, 372, 182, 442, 442, 494, 408, 498, 168, 318, 372, 498, 234, 494, 174, 324]),
  (293, 407, [293, 199, 432, 244, 357, 423, 193, 299, 407, 373, 232, 444, 192, 484, 283, 497, 173, 319, 297, 483, 184, 492, 169, 323]),
  (418, 157, [418, 249, 307, 249, 307, 418, 443, 374, 157, 374, 157, 443, 317, 499, 158, 499, 158, 317, 322, 493, 159, 493, 159, 322]),
  (68, 315, [68, 274, 67, 479, 272, 478, 43, 149, 33, 495, 134, 490, 57, 229, 32, 370, 154, 320, 257, 403, 132, 440, 153, 315]),
  (193, 407, [193, 299, 192, 484, 297, 483, 293, 199, 283, 497, 184, 492, 432, 244, 407, 373, 169, 323, 357, 423, 232, 444, 173, 319]),
  (318, 282, [318, 324, 442, 494, 372, 498, 168, 174, 408, 498, 234, 494, 182, 234, 282, 372, 174, 324, 282, 408, 182, 442, 168, 318]),
  (443, 157, [443, 374, 317, 499, 322, 493, 418, 249, 158, 499, 159, 493, 307, 249, 157, 374, 159, 322, 307, 418, 157, 443, 158, 317]),
  (118, 305, [118, 399, 72, 354, 267, 428, 118, 399, 34, 245, 133, 415, 72, 354, 34, 245, 152, 305, 267, 428, 133, 415, 152, 305]),
  (243, 167, [243, 424, 197, 359, 292, 433, 368, 449, 284, 247, 183, 417, 447, 369, 409, 248, 167, 308, 367, 448, 233, 419, 172, 309]),
  (368, 167, [368, 449, 447, 369, 367, 448, 243, 424, 409, 248, 233, 419, 197, 359, 284, 247, 172, 309, 292, 433, 183, 417, 167, 308]),
  (493, 157, [493, 499, 322, 374, 317, 443, 493, 499, 159, 249, 158, 418, 322, 374, 159, 249, 157, 307, 317, 443, 158, 418, 157, 307]),
  (23, 275, [23, 19, 102, 54, 377, 253, 19, 23, 105, 45, 380, 140, 54, 102, 45, 105, 275, 175, 253, 377, 140, 380, 175, 275]),
  (148, 430, [148, 44, 227, 59, 402, 258, 269, 73, 355, 47, 430, 142, 429, 117, 420, 108, 290, 178, 353, 397, 240, 384, 195, 279]),
  (273, 480, [273, 69, 477, 69, 477, 273, 144, 48, 480, 48, 480, 144, 179, 107, 295, 107, 295, 179, 278, 382, 190, 382, 190, 278]),
  (398, 280, [398, 119, 352, 74, 427, 268, 394, 123, 230, 49, 405, 143, 304, 122, 170, 109, 280, 177, 303, 392, 165, 383, 180, 277]),
  (48, 480, [48, 144, 107, 179, 382, 278, 69, 273, 107, 295, 382, 190, 69, 477, 48, 480, 278, 190, 273, 477, 144, 480, 179, 295]),
  (173, 407, [173, 169, 232, 184, 407, 283, 319, 323, 357, 297, 432, 192, 444, 492, 423, 483, 293, 193, 373, 497, 244, 484, 199, 299]),
  (298, 482, [298, 194, 482, 194, 482, 298, 194, 298, 482, 298, 482, 194, 194, 482, 298, 482, 298, 194, 298, 482, 194, 482, 194, 298]),
  (423, 407, [423, 244, 357, 199, 432, 293, 444, 373, 232, 299, 407, 193, 319, 497, 173, 484, 283, 192, 323, 492, 169, 483, 184, 297]),
  (73, 430, [73, 269, 117, 429, 397, 353, 44, 148, 108, 420, 384, 240, 59, 227, 47, 355, 279, 195, 258, 402, 142, 430, 178, 290]),
  (198, 242, [198, 294, 242, 434, 422, 358, 294, 198, 358, 422, 434, 242, 434, 242, 422, 358, 294, 198, 358, 422, 242, 434, 198, 294]),
  (323, 407, [323, 319, 492, 444, 497, 373, 169, 173, 483, 423, 484, 244, 184, 232, 297, 357, 299, 199, 283, 407, 192, 432, 193, 293]),
  (448, 167, [448, 369, 367, 449, 447, 368, 419, 248, 233, 424, 409, 243, 309, 247, 172, 359, 284, 197, 308, 417, 167, 433, 183, 292]),
  (123, 280, [123, 394, 122, 304, 392, 303, 119, 398, 109, 170, 383, 165, 74, 352, 49, 230, 277, 180, 268, 427, 143, 405, 177, 280]),
  (248, 167, [248, 419, 247, 309, 417, 308, 369, 448, 359, 172, 433, 167, 449, 367, 424, 233, 292, 183, 368, 447, 243, 409, 197, 284]),
  (373, 407, [373, 444, 497, 319, 492, 323, 244, 423, 484, 173, 483, 169, 199, 357, 299, 232, 297, 184, 293, 432, 193, 407, 192, 283]),
  (498, 282, [498, 494, 372, 324, 442, 318, 494, 498, 234, 174, 408, 168, 324, 372, 174, 234, 282, 182, 318, 442, 168, 408, 182, 282]),
  (4, 125, [4, 3, 4, 2, 3, 2, 20, 15, 20, 5, 15, 5, 100, 50, 100, 25, 50, 25, 375, 250, 375, 125, 250, 125]),
  (129, 475, [129, 28, 129, 7, 28, 7, 270, 65, 270, 7, 65, 7, 475, 65, 475, 28, 65, 28, 475, 270, 475, 129, 270, 129]),
  (254, 400, [254, 53, 379, 17, 103, 22, 145, 40, 395, 8, 115, 9, 225, 55, 350, 27, 70, 29, 400, 255, 425, 127, 265, 128]),
  (379, 400, [379, 103, 254, 22, 53, 17, 395, 115, 145, 9, 40, 8, 350, 70, 225, 29, 55, 27, 425, 265, 400, 128, 255, 127]),
  (29, 400, [29, 128, 9, 127, 8, 27, 70, 265, 22, 255, 17, 55, 115, 425, 103, 400, 53, 40, 395, 350, 379, 225, 254, 145]),
  (154, 315, [154, 153, 134, 132, 33, 32, 320, 315, 272, 257, 67, 57, 490, 440, 478, 403, 68, 43, 495, 370, 479, 229, 274, 149]),
  (279, 430, [279, 178, 384, 142, 108, 47, 195, 290, 397, 258, 117, 59, 240, 430, 353, 402, 73, 44, 420, 355, 429, 227, 269, 148]),
  (404, 365, [404, 228, 259, 147, 58, 42, 445, 365, 147, 259, 42, 58, 365, 445, 228, 404, 58, 42, 445, 365, 404, 228, 259, 147]),
  (54, 275, [54, 253, 19, 377, 23, 102, 45, 140, 23, 380, 19, 105, 105, 175, 102, 275, 54, 45, 380, 275, 377, 175, 253, 140]),
  (179, 480, [179, 278, 144, 382, 48, 107, 295, 190, 273, 382, 69, 107, 480, 190, 477, 278, 69, 48, 480, 295, 477, 179, 273, 144]),
  (304, 280, [304, 303, 394, 392, 123, 122, 170, 165, 398, 383, 119, 109, 230, 180, 352, 277, 74, 49, 405, 280, 427, 177, 268, 143]),
  (429, 430, [429, 353, 269, 397, 73, 117, 420, 240, 148, 384, 44, 108, 355, 195, 227, 279, 59, 47, 430, 290, 402, 178, 258, 142]),
  (104, 150, [104, 378, 24, 252, 18, 52, 120, 390, 24, 130, 18, 30, 120, 300, 104, 150, 52, 30, 390, 300, 378, 150, 252, 130]),
  (229, 315, [229, 403, 149, 257, 43, 57, 370, 440, 274, 132, 68, 32, 495, 315, 479, 153, 67, 33, 490, 320, 478, 154, 272, 134]),
  (354, 305, [354, 428, 399, 267, 118, 72, 245, 415, 399, 133, 118, 34, 245, 305, 354, 152, 72, 34, 415, 305, 428, 152, 267, 133]),
  (479, 315, [479, 478, 274, 272, 68, 67, 495, 490, 149, 134, 43, 33, 370, 320, 229, 154, 57, 32, 440, 315, 403, 153, 257, 132]),
  (9, 400, [9, 8, 29, 27, 128, 127, 22, 17, 70, 55, 265, 255, 103, 53, 115, 40, 425, 400, 379, 254, 395, 145, 350, 225]),
  (134, 315, [134, 33, 154, 32, 153, 132, 272, 67, 320, 57, 315, 257, 478, 68, 490, 43, 440, 403, 479, 274, 495, 149, 370, 229]),
  (259, 365, [259, 58, 404, 42, 228, 147, 147, 42, 445, 58, 365, 259, 228, 58, 365, 42, 445, 404, 404, 259, 445, 147, 365, 228]),
  (384, 430, [384, 108, 279, 47, 178, 142, 397, 117, 195, 59, 290, 258, 353, 73, 240, 44, 430, 402, 429, 269, 420, 148, 355, 227]),
  (34, 305, [34, 133, 34, 152, 133, 152, 72, 267, 72, 305, 267, 305, 118, 428, 118, 415, 428, 415, 399, 354, 399, 245, 354, 245]),
  (159, 157, [159, 158, 159, 157, 158, 157, 322, 317, 322, 307, 317, 307, 493, 443, 493, 418, 443, 418, 499, 374, 499, 249, 374, 249]),
  (284, 167, [284, 183, 409, 167, 233, 172, 197, 292, 447, 308, 367, 309, 243, 433, 368, 417, 448, 419, 424, 359, 449, 247, 369, 248]),
  (409, 167, [409, 233, 284, 172, 183, 167, 447, 367, 197, 309, 292, 308, 368, 448, 243, 419, 433, 417, 449, 369, 424, 248, 359, 247]),
  (59, 430, [59, 258, 44, 402, 148, 227, 47, 142, 73, 430, 269, 355, 108, 178, 117, 290, 429, 420, 384, 279, 397, 195, 353, 240]),
  (184, 407, [184, 283, 169, 407, 173, 232, 297, 192, 323, 432, 319, 357, 483, 193, 492, 293, 444, 423, 484, 299, 497, 199, 373, 244]),
  (309, 167, [309, 308, 419, 417, 248, 247, 172, 167, 448, 433, 369, 359, 233, 183, 367, 292, 449, 424, 409, 284, 447, 197, 368, 243]),
  (434, 242, [434, 358, 294, 422, 198, 242, 422, 242, 198, 434, 294, 358, 358, 198, 242, 294, 434, 422, 434, 294, 422, 198, 358, 242]),
  (109, 280, [109, 383, 49, 277, 143, 177, 122, 392, 74, 180, 268, 280, 123, 303, 119, 165, 427, 405, 394, 304, 398, 170, 352, 230]),
  (234, 282, [234, 408, 174, 282, 168, 182, 372, 442, 324, 182, 318, 282, 498, 318, 494, 168, 442, 408, 494, 324, 498, 174, 372, 234]),
  (359, 167, [359, 433, 424, 292, 243, 197, 247, 417, 449, 183, 368, 284, 248, 308, 369, 167, 447, 409, 419, 309, 448, 172, 367, 233]),
  (484, 407, [484, 483, 299, 297, 193, 192, 497, 492, 199, 184, 293, 283, 373, 323, 244, 169, 432, 407, 444, 319, 423, 173, 357, 232]),
  (19, 275, [19, 23, 54, 102, 253, 377, 23, 19, 45, 105, 140, 380, 102, 54, 105, 45, 175, 275, 377, 253, 380, 140, 275, 175]),
  (144, 480, [144, 48, 179, 107, 278, 382, 273, 69, 295, 107, 190, 382, 477, 69, 480, 48, 190, 278, 477, 273, 480, 144, 295, 179]),
  (269, 430, [269, 73, 429, 117, 353, 397, 148, 44, 420, 108, 240, 384, 227, 59, 355, 47, 195, 279, 402, 258, 430, 142, 290, 178]),
  (394, 280, [394, 123, 304, 122, 303, 392, 398, 119, 170, 109, 165, 383, 352, 74, 230, 49, 180, 277, 427, 268, 405, 143, 280, 177]),
  (44, 430, [44, 148, 59, 227, 258, 402, 73, 269, 47, 355, 142, 430, 117, 429, 108, 420, 178, 290, 397, 353, 384, 240, 279, 195]),
  (169, 407, [169, 173, 184, 232, 283, 407, 323, 319, 297, 357, 192, 432, 492, 444, 483, 423, 193, 293, 497, 373, 484, 244, 299, 199]),
  (294, 242, [294, 198, 434, 242, 358, 422, 198, 294, 422, 358, 242, 434, 242, 434, 358, 422, 198, 294, 422, 358, 434, 242, 294, 198]),
  (419, 167, [419, 248, 309, 247, 308, 417, 448, 369, 172, 359, 167, 433, 367, 449, 233, 424, 183, 292, 447, 368, 409, 243, 284, 197]),
  (69, 480, [69, 273, 69, 477, 273, 477, 48, 144, 48, 480, 144, 480, 107, 179, 107, 295, 179, 295, 382, 278, 382, 190, 278, 190]),
  (194, 482, [194, 298, 194, 482, 298, 482, 298, 194, 298, 482, 194, 482, 482, 194, 482, 298, 194, 298, 482, 298, 482, 194, 298, 194]),
  (319, 407, [319, 323, 444, 492, 373, 497, 173, 169, 423, 483, 244, 484, 232, 184, 357, 297, 199, 299, 407, 283, 432, 192, 293, 193]),
  (444, 407, [444, 373, 319, 497, 323, 492, 423, 244, 173, 484, 169, 483, 357, 199, 232, 299, 184, 297, 432, 293, 407, 193, 283, 192]),
  (119, 280, [119, 398, 74, 352, 268, 427, 123, 394, 49, 230, 143, 405, 122, 304, 109, 170, 177, 280, 392, 303, 383, 165, 277, 180]),
  (244, 407, [244, 423, 199, 357, 293, 432, 373, 444, 299, 232, 193, 407, 497, 319, 484, 173, 192, 283, 492, 323, 483, 169, 297, 184]),
  (369, 167, [369, 448, 449, 367, 368, 447, 248, 419, 424, 233, 243, 409, 247, 309, 359, 172, 197, 284, 417, 308, 433, 167, 292, 183]),
  (494, 282, [494, 498, 324, 372, 318, 442, 498, 494, 174, 234, 168, 408, 372, 324, 234, 174, 182, 282, 442, 318, 408, 168, 282, 182]),
  (24, 150, [24, 18, 104, 52, 378, 252, 24, 18, 120, 30, 390, 130, 104, 52, 120, 30, 300, 150, 378, 252, 390, 130, 300, 150]),
  (149, 315, [149, 43, 229, 57, 403, 257, 274, 68, 370, 32, 440, 132, 479, 67, 495, 33, 315, 153, 478, 272, 490, 134, 320, 154]),
  (274, 315, [274, 68, 479, 67, 478, 272, 149, 43, 495, 33, 490, 134, 229, 57, 370, 32, 320, 154, 403, 257, 440, 132, 315, 153]),
  (399, 305, [399, 118, 354, 72, 428, 267, 399, 118, 245, 34, 415, 133, 354, 72, 245, 34, 305, 152, 428, 267, 415, 133, 305, 152]),
  (49, 280, [49, 143, 109, 177, 383, 277, 74, 268, 122, 280, 392, 180, 119, 427, 123, 405, 303, 165, 398, 352, 394, 230, 304, 170]),
  (174, 282, [174, 168, 234, 182, 408, 282, 324, 318, 372, 282, 442, 182, 494, 442, 498, 408, 318, 168, 498, 372, 494, 234, 324, 174]),
  (299, 407, [299, 193, 484, 192, 483, 297, 199, 293, 497, 283, 492, 184, 244, 432, 373, 407, 323, 169, 423, 357, 444, 232, 319, 173]),
  (424, 167, [424, 243, 359, 197, 433, 292, 449, 368, 247, 284, 417, 183, 369, 447, 248, 409, 308, 167, 448, 367, 419, 233, 309, 172]),
  (74, 280, [74, 268, 119, 427, 398, 352, 49, 143, 123, 405, 394, 230, 109, 177, 122, 280, 304, 170, 383, 277, 392, 180, 303, 165]),
  (199, 407, [199, 293, 244, 432, 423, 357, 299, 193, 373, 407, 444, 232, 484, 192, 497, 283, 319, 173, 483, 297, 492, 184, 323, 169]),
  (324, 282, [324, 318, 494, 442, 498, 372, 174, 168, 498, 408, 494, 234, 234, 182, 372, 282, 324, 174, 408, 282, 442, 182, 318, 168]),
  (449, 167, [449, 368, 369, 447, 448, 367, 424, 243, 248, 409, 419, 233, 359, 197, 247, 284, 309, 172, 433, 292, 417, 183, 308, 167]),
  (124, 155, [124, 393, 124, 302, 393, 302, 124, 393, 124, 155, 393, 155, 124, 302, 124, 155, 302, 155, 393, 302, 393, 155, 302, 155]),
  (249, 157, [249, 418, 249, 307, 418, 307, 374, 443, 374, 157, 443, 157, 499, 317, 499, 158, 317, 158, 493, 322, 493, 159, 322, 159]),
  (374, 157, [374, 443, 499, 317, 493, 322, 249, 418, 499, 158, 493, 159, 249, 307, 374, 157, 322, 159, 418, 307, 443, 157, 317, 158]),
  (499, 157, [499, 493, 374, 322, 443, 317, 499, 493, 249, 159, 418, 158, 374, 322, 249, 159, 307, 157, 443, 317, 418, 158, 307, 157])]
def tabE4 : List (Nat × Nat) := [
  (0, 1),
  (125, 76957043352332967211482500195592995714855617156960891076829807195928173895205368282951890500349777964399703654460),
  (150, 2522344052916065333323550428447792003825301007509912630024469604194198970865927258221174283119160291207508467401359360),
  (275, 2770453560683986819613370007041408554087025232642732476452649035968431529206600147210453752090692826383702202777600),
  (400, 86645930604221882451645857163229385652009394316889450051763720910118689290604075251337968588044642183578074399438234342601655040),
  (475, 97554642197374757230674913431036447054643691958280348464348656885430456902306221448546584103076806366720700924132800064882769268329486160494720),
  (155, 20173827172553973356686868539421674173538770851552091447627038867179683167342243023447030246342406995991097684504084480),
  (280, 346583795093114694684596094047066031209856787933979159344268100963117740179182666616322077299328348938291150981434486210439413760),
  (305, 693252039985333805758760382001014547763084166185491998610240223324842694738598567504185864941434369425529356211035676087209164800),
  (430, 4161712237081207296743714388070846251746783306970029234491947874130847353338017278981739080529792035492876605418924273466039336960),
  (480, 3511967119105491260304296883527162595516271530301162304805245358134589608131517708488898929810498021170689434451757927006435642308628729802260480),
  (315, 105492468323690749316234236587465435913982240770067176981226895451442846713490809837037785777558032213027539579370294925045976386837870087631127183360),
  (365, 90854840536992177316714941676797710263620510739283130087582755209956655340178231527821415511647759244566292199816251306224515232563200),
  (157, 1662268668072259566079783704079292565404426383943827454935269717502924084663220776853004026973649181004297920834263527392160137395159636597614665793536),
  (282, 869494380222412695579108580999744658440598271101216897626141216465293553484693724989219865594237566733398013711391989670818229704479760069168595992576),
  (407, 422035430014319667183473501754624961258270440082695890289015761662487678315360341456860601990296521909656560852548144100230898388652675250652570451968),
  (482, 12486994201263968925526388919172665222994392570659884603945886832585108476846173902583594060923776529778847130302354434586051637079765173909061632),
  (167, 2543957761408766446119861151817443118064504891507891419030231718838063593856330038364338802860021667950148214750876995663601266409340928),
  (242, 44373545846925697186300442262341841634006545987175079546833442229055939204927913200416665039754105407468742503140914996781214859264)]
theorem tabD4_eq : ((allDs 4).map (rowD 4) == tabD4) = true := by decide +kernel
theorem chkE4 : chkE tabE4 tabD4 = true := by decide +kernel
end PL
end
section
set_option Elab.async false
set_option autoImplicit false
set_option linter.all false
set_option maxRecDepth 100000
set_option maxHeartbeats 1000000
/-! W1: ratios: what the program's and the law's own arithmetic give. -/
namespace PL
abbrev RD (q : Rat) : D := .tup [.int q.num, .int (q.den : Int)]
def wB : Nat := 2 ^ 1900
structure Wd (q : Rat) : Prop where
  n : q.num.natAbs < wB
  d : q.den < wB
theorem wB_mul {a b : Nat} (ha : a < wB) (hb : b < wB) : a * b < wideN := by
  have h1 : a * b ≤ wB * wB := Nat.mul_le_mul (Nat.le_of_lt ha) (Nat.le_of_lt hb)
  have h2 : wB * wB < wideN := by unfold wB wideN; rw [← Nat.pow_add]; exact Nat.pow_lt_pow_right (by decide) (by decide)
  omega
theorem wB_wide : wB < wideN := by unfold wB wideN; exact Nat.pow_lt_pow_right (by decide) (by decide)
theorem oMul_int {a b : Int} (ha : a.natAbs < wB) (hb : b.natAbs < wB) : oMul (.int a) (.int b) = some (.int (a * b)) := by
  have h := wB_wide
  show (if a.natAbs < wideN ∧ b.natAbs < wideN then some (D.int (a * b)) else none) = _
  rw [if_pos ⟨by omega, by omega⟩]
theorem oDivW_int {a b : Int} (h0 : 0 < b) (hb : b.natAbs < wideN) : oDivW (.int a) (.int b) = some (.int (a / b)) := by
  show (if 0 < b ∧ b.natAbs < wideN then some (D.int (a / b)) else none) = _
  rw [if_pos ⟨h0, hb⟩]
theorem oGt_int (a b : Int) : oGt (.int a) (.int b) = some (.bl (decide (b < a))) := rfl
theorem gcd_facts {t : Int} {b : Nat} (h0 : 0 < b) : 0 < Nat.gcd t.natAbs b ∧ Nat.gcd t.natAbs b ≤ b := ⟨Nat.gcd_pos_of_pos_right _ h0, Nat.gcd_le_right _ h0⟩
theorem RD_mk {t : Int} {b : Nat} (h0 : 0 < b) : RD (mkRat t b) = .tup [.int (t / (Nat.gcd t.natAbs b : Nat)), .int ((b : Int) / (Nat.gcd t.natAbs b : Nat))] := by
  unfold RD
  rw [Rat.num_mkRat, Rat.den_mkRat, if_neg (by omega), if_neg (by omega), Nat.gcd_comm b]
  congr 3
theorem fv_ratio {t : Int} {b : Nat} (h0 : 0 < b) (hb : b < wideN) : Fv F_ratio [.int t, .int (b : Int)] (RD (mkRat t b)) := by
  obtain ⟨g0, g1⟩ := gcd_facts (t := t) h0
  rw [RD_mk h0]
  have gd : oGcd (.int t) (.int (b : Int)) = some (.int ((Nat.gcd t.natAbs b : Nat) : Int)) := by
    show some (D.int ((Nat.gcd t.natAbs (b : Int).natAbs : Nat) : Int)) = _
    rw [Int.natAbs_natCast]
  have e : Ev (eIf (tB (eBin oGt (eVar 1) (eC (.int 0)))) (eBin oGcd (eVar 0) (eVar 1)) (eBin oSub (eC (.int 0)) (eBin oGcd (eVar 0) (eVar 1)))) [some (.int t), some (.int (b : Int)), none] (.int ((Nat.gcd t.natAbs b : Nat) : Int)) := by
    refine ev_if (tv_b (ev_bin (ev_var rfl) ev_c (oGt_int _ _))) (fun _ => ev_bin (ev_var rfl) (ev_var rfl) gd) fun q => ?_
    simp at q
    omega
  exact fv_rt (rt_seq (nx_set e) (rt_seq1 (rt_ret (ev_tup (av_cons (ev_bin (ev_var rfl) (ev_var rfl) (oDivW_int (by omega) (by omega))) (av_cons (ev_bin (ev_var rfl) (ev_var rfl) (oDivW_int (by omega) (by omega))) av_nil)) (by simp)))))
/-! ### the law's -/
theorem fmod_nat (x y : Nat) : (x : Int).fmod (y : Int) = ((x % y : Nat) : Int) := by
  rw [Int.fmod_eq_emod_of_nonneg _ (by omega)]; rfl
theorem while_gcd {t b : D} : ∀ (k x y : Nat), y < k → ∀ r,
    whileL (tB (eBin oNe (eVar 3) (eC (.int 0)))) (sSeq (sPar [2, 3] (aCons (eVar 3) (aCons (eBin oMod (eUn oInt (eVar 2)) (eVar 3)) aNil))) sNil) k [some t, some b, some (.int (x : Int)), some (.int (y : Int))] r =
      some (.nx [some t, some b, some (.int ((Nat.gcd x y : Nat) : Int)), some (.int 0)] r)
  | 0, _, _, h, _ => by omega
  | k + 1, x, y, h, r => by
    have tv : Tv (tB (eBin oNe (eVar 3) (eC (.int 0)))) [some t, some b, some (.int (x : Int)), some (.int (y : Int))] (!((y : Int) == 0)) := tv_b (ev_bin (ev_var rfl) ev_c (oNe_int _ _))
    unfold whileL
    rw [tv r]
    by_cases hy : y = 0
    · subst hy
      simp
    · have e : (!((y : Int) == 0)) = true := by simp; omega
      rw [e]
      dsimp only
      have hm : oMod (.int (x : Int)) (.int (y : Int)) = some (.int ((x % y : Nat) : Int)) := by
        show (if (y : Int) = 0 then none else some (D.int ((x : Int).fmod (y : Int)))) = _
        rw [if_neg (by omega), fmod_nat]
      have nx : Nx (sSeq (sPar [2, 3] (aCons (eVar 3) (aCons (eBin oMod (eUn oInt (eVar 2)) (eVar 3)) aNil))) sNil) [some t, some b, some (.int (x : Int)), some (.int (y : Int))] [some t, some b, some (.int (y : Int)), some (.int ((x % y : Nat) : Int))] :=
        nx_seq (nx_par (av_cons (ev_var rfl) (av_cons (ev_bin (ev_un (y := .int (x : Int)) (ev_var rfl) rfl) (ev_var rfl) hm) av_nil))) nx_nil
      rw [nx r]
      dsimp only
      have hlt := Nat.mod_lt x (Nat.pos_of_ne_zero hy)
      rw [while_gcd k y (x % y) (by omega) r, Nat.gcd_comm y, ← Nat.gcd_rec, Nat.gcd_comm]
theorem oAbs_int (t : Int) : oAbs (.int t) = some (.int (t.natAbs : Int)) := by
  show some (D.int (if t < 0 then -t else t)) = _
  congr 2
  split <;> omega
theorem fv_lratio {t : Int} {b : Nat} (h0 : 0 < b) (hb : b < wideN) : Fv F_law_ratio [.int t, .int (b : Int)] (RD (mkRat t b)) := by
  obtain ⟨g0, g1⟩ := gcd_facts (t := t) h0
  rw [RD_mk h0]
  have gp : (0 : Int) < ((Nat.gcd t.natAbs b : Nat) : Int) := by omega
  have gw : (((Nat.gcd t.natAbs b : Nat) : Int)).natAbs < wideN := by omega
  refine fv_rt (rt_seq (nx_par (av_cons (ev_un (ev_var rfl) (oAbs_int t)) (av_cons (ev_un (ev_var rfl) (oAbs_int b)) av_nil))) (rt_seq (s1 := [some (.int t), some (.int (b : Int)), some (.int ((Nat.gcd t.natAbs b : Nat) : Int)), some (.int 0)]) (fun r => ?_) (rt_seq1 (rt_ret (ev_if (k := true) ?_ (fun _ => ev_tup (av_cons (ev_bin (ev_var rfl) (ev_var rfl) (oDivW_int gp gw)) (av_cons (ev_bin (ev_var rfl) (ev_var rfl) (oDivW_int gp gw)) av_nil)) (by simp)) fun q => by cases q)))))
  · unfold sWhile
    have ef : fuelOf [some (.int t), some (.int (b : Int)), some (.int (t.natAbs : Int)), some (.int ((b : Int).natAbs : Int))] 3 = b + 2 := by
      show ((b : Int).natAbs : Int).natAbs + 2 = _
      simp
    show whileL _ _ (fuelOf [some (.int t), some (.int (b : Int)), some (.int (t.natAbs : Int)), some (.int ((b : Int).natAbs : Int))] 3) _ r = _
    rw [ef]
    exact while_gcd (b + 2) t.natAbs b (by omega) r
  · have z := tv_b (ev_bin (o := oGt) (x := .int (b : Int)) (ev_var (i := 1) (s := [some (.int t), some (.int (b : Int)), some (.int ((Nat.gcd t.natAbs b : Nat) : Int)), some (.int 0)]) rfl) (ev_c (v := .int 0)) (oGt_int _ _))
    rw [decide_eq_true (by omega)] at z
    exact z
/-! ### sums and products -/
theorem wd_den {a c : Rat} (ha : Wd a) (hc : Wd c) : a.den * c.den < wideN := wB_mul ha.d hc.d
theorem den_pos2 (a c : Rat) : 0 < a.den * c.den := Nat.mul_pos (Nat.pos_of_ne_zero a.den_nz) (Nat.pos_of_ne_zero c.den_nz)
theorem ixR0 (q : Rat) : oIx (RD q) (.int 0) = some (.int q.num) := rfl
theorem ixR1 (q : Rat) : oIx (RD q) (.int 1) = some (.int (q.den : Int)) := rfl
section
variable {a c : Rat} (ha : Wd a) (hc : Wd c)
include ha hc
theorem args_plus : Av (aCons (eBin oAdd (eBin oMul (eBin oIx (eVar 0) (eC (.int 0))) (eBin oIx (eVar 1) (eC (.int 1)))) (eBin oMul (eBin oIx (eVar 1) (eC (.int 0))) (eBin oIx (eVar 0) (eC (.int 1))))) (aCons (eBin oMul (eBin oIx (eVar 0) (eC (.int 1))) (eBin oIx (eVar 1) (eC (.int 1)))) aNil)) [some (RD a), some (RD c)] [.int (a.num * c.den + c.num * a.den), .int ((a.den * c.den : Nat) : Int)] := by
  have i0 : Ev (eBin oIx (eVar 0) (eC (.int 0))) [some (RD a), some (RD c)] (.int a.num) := ev_bin (ev_var rfl) ev_c (ixR0 a)
  have i1 : Ev (eBin oIx (eVar 0) (eC (.int 1))) [some (RD a), some (RD c)] (.int (a.den : Int)) := ev_bin (ev_var rfl) ev_c (ixR1 a)
  have j0 : Ev (eBin oIx (eVar 1) (eC (.int 0))) [some (RD a), some (RD c)] (.int c.num) := ev_bin (ev_var rfl) ev_c (ixR0 c)
  have j1 : Ev (eBin oIx (eVar 1) (eC (.int 1))) [some (RD a), some (RD c)] (.int (c.den : Int)) := ev_bin (ev_var rfl) ev_c (ixR1 c)
  have hd1 : (a.den : Int).natAbs < wB := by rw [Int.natAbs_natCast]; exact ha.d
  have hd2 : (c.den : Int).natAbs < wB := by rw [Int.natAbs_natCast]; exact hc.d
  exact av_cons (ev_bin (ev_bin i0 j1 (oMul_int ha.n hd2)) (ev_bin j0 i1 (oMul_int hc.n hd1)) (oAdd_int _ _)) (av_cons (ev_bin i1 j1 (by rw [oMul_int hd1 hd2, Int.natCast_mul])) av_nil)
theorem args_by : Av (aCons (eBin oMul (eBin oIx (eVar 0) (eC (.int 0))) (eBin oIx (eVar 1) (eC (.int 0)))) (aCons (eBin oMul (eBin oIx (eVar 0) (eC (.int 1))) (eBin oIx (eVar 1) (eC (.int 1)))) aNil)) [some (RD a), some (RD c)] [.int (a.num * c.num), .int ((a.den * c.den : Nat) : Int)] := by
  have i0 : Ev (eBin oIx (eVar 0) (eC (.int 0))) [some (RD a), some (RD c)] (.int a.num) := ev_bin (ev_var rfl) ev_c (ixR0 a)
  have i1 : Ev (eBin oIx (eVar 0) (eC (.int 1))) [some (RD a), some (RD c)] (.int (a.den : Int)) := ev_bin (ev_var rfl) ev_c (ixR1 a)
  have j0 : Ev (eBin oIx (eVar 1) (eC (.int 0))) [some (RD a), some (RD c)] (.int c.num) := ev_bin (ev_var rfl) ev_c (ixR0 c)
  have j1 : Ev (eBin oIx (eVar 1) (eC (.int 1))) [some (RD a), some (RD c)] (.int (c.den : Int)) := ev_bin (ev_var rfl) ev_c (ixR1 c)
  have hd1 : (a.den : Int).natAbs < wB := by rw [Int.natAbs_natCast]; exact ha.d
  have hd2 : (c.den : Int).natAbs < wB := by rw [Int.natAbs_natCast]; exact hc.d
  exact av_cons (ev_bin i0 j0 (oMul_int ha.n hc.n)) (av_cons (ev_bin i1 j1 (by rw [oMul_int hd1 hd2, Int.natCast_mul])) av_nil)
theorem fv_plus : Fv F_plus [RD a, RD c] (RD (a + c)) := by
  rw [Rat.add_def']
  exact fv_rt (rt_seq1 (rt_ret (ev_call (args_plus ha hc) (fv_ratio (den_pos2 a c) (wd_den ha hc)))))
theorem fv_lplus : Fv F_law_plus [RD a, RD c] (RD (a + c)) := by
  rw [Rat.add_def']
  exact fv_rt (rt_seq1 (rt_ret (ev_call (args_plus ha hc) (fv_lratio (den_pos2 a c) (wd_den ha hc)))))
theorem fv_by : Fv F_by [RD a, RD c] (RD (a * c)) := by
  rw [Rat.mul_def']
  exact fv_rt (rt_seq1 (rt_ret (ev_call (args_by ha hc) (fv_ratio (den_pos2 a c) (wd_den ha hc)))))
theorem fv_lby : Fv F_law_by [RD a, RD c] (RD (a * c)) := by
  rw [Rat.mul_def']
  exact fv_rt (rt_seq1 (rt_ret (ev_call (args_by ha hc) (fv_lratio (den_pos2 a c) (wd_den ha hc)))))
end
/-! ### how wide -/
def MM : Nat := 144403552893600
/-- a whole multiple of 1 / MM ^ k, at most B -/
def G (k B : Nat) (q : Rat) : Prop := ∃ z : Nat, q * ((MM ^ k : Nat) : Rat) = (z : Rat) ∧ z ≤ B * MM ^ k
theorem MM_pos (k : Nat) : 0 < MM ^ k := Nat.pow_pos (by decide)
theorem G.wd {k B : Nat} {q : Rat} (h : G k B q) (hk : k ≤ 4) (hB : B ≤ 2 ^ 40) : Wd q := by
  obtain ⟨z, e, hz⟩ := h
  have h0 : ((MM ^ k : Nat) : Rat) ≠ 0 := fun c => by
    have := Rat.natCast_eq_zero_iff.mp c
    have := MM_pos k
    omega
  have eq : q = mkRat (z : Int) (MM ^ k) := by
    rw [Rat.mkRat_eq_div, ← Rat.mul_div_cancel (a := q) h0, e]
    rfl
  have hM : MM ^ k ≤ MM ^ 4 := Nat.pow_le_pow_right (by decide) hk
  have hb : 2 ^ 40 * MM ^ 4 < wB := by decide +kernel
  have hz2 : z ≤ 2 ^ 40 * MM ^ 4 := Nat.le_trans hz (Nat.mul_le_mul hB hM)
  have hm2 : MM ^ k < wB := by
    have h1 : MM ^ 4 ≤ 2 ^ 40 * MM ^ 4 := Nat.le_mul_of_pos_left _ (by decide)
    omega
  constructor
  · rw [eq, Rat.num_mkRat, if_neg (by have := MM_pos k; omega)]
    have : ((z : Int) / (Nat.gcd (MM ^ k) (z : Int).natAbs : Nat)).natAbs ≤ z := by
      rw [← Int.natCast_ediv, Int.natAbs_natCast]
      exact Nat.div_le_self _ _
    omega
  · rw [eq, Rat.den_mkRat, if_neg (by have := MM_pos k; omega)]
    have := Nat.div_le_self (MM ^ k) (Nat.gcd (MM ^ k) (z : Int).natAbs)
    omega
theorem G.up {k B B' : Nat} {q : Rat} (h : G k B q) (hB : B ≤ B') : G k B' q := by
  obtain ⟨z, e, hz⟩ := h
  exact ⟨z, e, Nat.le_trans hz (Nat.mul_le_mul_right _ hB)⟩
theorem G.add {k B C : Nat} {p q : Rat} (h : G k B p) (h' : G k C q) : G k (B + C) (p + q) := by
  obtain ⟨z, e, hz⟩ := h
  obtain ⟨y, f, hy⟩ := h'
  refine ⟨z + y, ?_, ?_⟩
  · rw [Rat.add_mul, e, f, Rat.natCast_add]
  · rw [Nat.add_mul]; omega
theorem G.zero (k B : Nat) : G k B 0 := ⟨0, by rw [Rat.zero_mul]; rfl, by omega⟩
theorem G.one : G 0 1 1 := ⟨1, by rw [Rat.one_mul]; rfl, by decide⟩
theorem MM_dvd : ∀ l : Nat, l < 37 → 1 ≤ l → MM / l * l = MM := by decide +kernel
theorem mk_mul {w l : Nat} (h0 : 1 ≤ l) (h1 : l ≤ 36) : mkRat (w : Int) l * (MM : Rat) = ((w * (MM / l) : Nat) : Rat) := by
  have hl : ((l : Nat) : Rat) ≠ 0 := fun c => by
    have := Rat.natCast_eq_zero_iff.mp c
    omega
  have e := MM_dvd l (by omega) h0
  rw [Rat.mkRat_eq_div]
  conv => lhs; rw [← e]
  rw [Rat.natCast_mul, Rat.natCast_mul, Rat.mul_comm ((MM / l : Nat) : Rat), ← Rat.mul_assoc, Rat.div_mul_cancel hl]
  rfl
theorem G.by {k B w l : Nat} {q : Rat} (h : G k B q) (h0 : 1 ≤ l) (h1 : l ≤ 36) (hw : w ≤ l) : G (k + 1) B (q * mkRat (w : Int) l) := by
  obtain ⟨z, e, hz⟩ := h
  refine ⟨z * (w * (MM / l)), ?_, ?_⟩
  · rw [Nat.pow_succ, Rat.natCast_mul (MM ^ k), Rat.natCast_mul z, ← e, ← mk_mul h0 h1]
    grind
  · rw [Nat.pow_succ, ← Nat.mul_assoc B]
    refine Nat.mul_le_mul hz ?_
    have := MM_dvd l (by omega) h0
    calc w * (MM / l) ≤ l * (MM / l) := Nat.mul_le_mul_right _ hw
      _ = MM := by rw [Nat.mul_comm]; exact this
theorem wd_mk {w l : Nat} (h0 : 1 ≤ l) (h1 : l ≤ 36) (hw : w ≤ l) : Wd (mkRat (w : Int) l) := by
  have := (G.one.by h0 h1 hw).wd (by decide) (by decide)
  rwa [Rat.one_mul] at this
end PL
end
section
set_option Elab.async false
set_option autoImplicit false
set_option linter.all false
set_option maxRecDepth 100000
set_option maxHeartbeats 1000000
/-! W2: tables of ratios by lots, and sums over orders. -/
namespace PL
def sumR : List Rat → Rat
  | [] => 0
  | x :: xs => x + sumR xs
theorem sumR_append : ∀ a b : List Rat, sumR (a ++ b) = sumR a + sumR b
  | [], b => by show sumR b = 0 + sumR b; rw [Rat.zero_add]
  | x :: a, b => by show x + sumR (a ++ b) = x + sumR a + sumR b; rw [sumR_append a b, Rat.add_assoc]
theorem sumR_flat {α : Type} (g : α → List Rat) : ∀ l : List α, sumR (l.flatMap g) = sumR (l.map fun x => sumR (g x))
  | [] => rfl
  | x :: l => by rw [List.flatMap_cons, sumR_append, sumR_flat g l]; rfl
section
variable {σ : Type} [DecidableEq σ]
abbrev Ky (σ : Type) := List Int × σ
abbrev Tb (σ : Type) := List (Ky σ × Rat)
def getT : Tb σ → Ky σ → Option Rat
  | [], _ => none
  | e :: r, k => if e.1 = k then some e.2 else getT r k
def putT : Tb σ → Ky σ → Rat → Tb σ
  | [], k, v => [(k, v)]
  | e :: r, k, v => if e.1 = k then (e.1, v) :: r else e :: putT r k v
def addT (T : Tb σ) (k : Ky σ) (v : Rat) : Tb σ := putT T k ((getT T k).getD 0 + v)
def lin (f : Ky σ → Rat) : Tb σ → Rat
  | [] => 0
  | e :: r => f e.1 * e.2 + lin f r
theorem lin_putT (f : Ky σ → Rat) (k : Ky σ) (v : Rat) : ∀ T : Tb σ, lin f (putT T k v) = lin f T + f k * (v - (getT T k).getD 0)
  | [] => by
    show f k * v + 0 = 0 + f k * (v - 0)
    grind
  | e :: r => by
    unfold putT getT
    by_cases h : e.1 = k
    · rw [if_pos h, if_pos h]
      show f e.1 * v + lin f r = f e.1 * e.2 + lin f r + f k * (v - e.2)
      rw [h]
      grind
    · rw [if_neg h, if_neg h]
      show f e.1 * e.2 + lin f (putT r k v) = f e.1 * e.2 + lin f r + f k * (v - (getT r k).getD 0)
      rw [lin_putT f k v r]
      grind
theorem lin_addT (f : Ky σ → Rat) (T : Tb σ) (k : Ky σ) (v : Rat) : lin f (addT T k v) = lin f T + f k * v := by
  unfold addT
  rw [lin_putT]
  grind
theorem keys_putT {k x : Ky σ} {v : Rat} : ∀ {T : Tb σ}, x ∈ (putT T k v).map (·.1) → x ∈ T.map (·.1) ∨ x = k
  | [], h => by
    have : x = k := by simpa [putT] using h
    exact .inr this
  | e :: r, h => by
    unfold putT at h
    split at h
    · exact .inl (by simpa using h)
    · rcases List.mem_cons.mp (show x ∈ e.1 :: (putT r k v).map (·.1) from h) with q | q
      · exact .inl (by rw [q]; exact List.mem_cons_self)
      · rcases keys_putT q with z | z
        · exact .inl (List.mem_cons_of_mem _ z)
        · exact .inr z
theorem nd_putT {k : Ky σ} {v : Rat} : ∀ {T : Tb σ}, (T.map (·.1)).Nodup → ((putT T k v).map (·.1)).Nodup
  | [], _ => by simp [putT]
  | e :: r, h => by
    obtain ⟨h1, h2⟩ := List.nodup_cons.mp (show (e.1 :: r.map (·.1)).Nodup from h)
    unfold putT
    split
    · exact h
    · rename_i q
      refine List.nodup_cons.mpr ⟨fun z => ?_, nd_putT h2⟩
      rcases keys_putT z with y | y
      · exact h1 y
      · exact q y
theorem mem_putT {k : Ky σ} {v : Rat} {e : Ky σ × Rat} : ∀ {T : Tb σ}, e ∈ putT T k v → e ∈ T ∨ e = (k, v)
  | [], h => .inr (by simpa [putT] using h)
  | e' :: r, h => by
    unfold putT at h
    split at h
    · rename_i q
      rcases List.mem_cons.mp h with z | z
      · exact .inr (by rw [z, q])
      · exact .inl (List.mem_cons_of_mem _ z)
    · rcases List.mem_cons.mp h with z | z
      · exact .inl (by rw [z]; exact List.mem_cons_self)
      · rcases mem_putT z with y | y
        · exact .inl (List.mem_cons_of_mem _ y)
        · exact .inr y
theorem len_putT {k : Ky σ} {v : Rat} : ∀ {T : Tb σ}, (putT T k v).length ≤ T.length + 1
  | [] => by simp [putT]
  | e :: r => by
    unfold putT
    split
    · simp
    · have := len_putT (k := k) (v := v) (T := r)
      simp; omega
theorem mem_getT {k : Ky σ} {v : Rat} : ∀ {T : Tb σ}, getT T k = some v → (k, v) ∈ T
  | [], h => by cases h
  | e :: r, h => by
    unfold getT at h
    split at h
    · rename_i q
      cases h
      rw [← q]
      exact List.mem_cons_self
    · exact List.mem_cons_of_mem _ (mem_getT h)
theorem getT_none {k : Ky σ} : ∀ {T : Tb σ}, k ∉ T.map (·.1) → getT T k = none
  | [], _ => rfl
  | e :: r, h => by
    unfold getT
    rw [if_neg fun q => h (by rw [← q]; exact List.mem_cons_self)]
    exact getT_none fun q => h (List.mem_cons_of_mem _ q)
theorem getT_mem {e : Ky σ × Rat} : ∀ {T : Tb σ}, (T.map (·.1)).Nodup → e ∈ T → getT T e.1 = some e.2
  | [], _, h => by cases h
  | e' :: r, nd, h => by
    obtain ⟨h1, h2⟩ := List.nodup_cons.mp (show (e'.1 :: r.map (·.1)).Nodup from nd)
    unfold getT
    rcases List.mem_cons.mp h with z | z
    · rw [z, if_pos rfl]
    · rw [if_neg fun q => h1 (by rw [q]; exact List.mem_map_of_mem z)]
      exact getT_mem h2 z
theorem lin_none {k : Ky σ} : ∀ {T : Tb σ}, k ∉ T.map (·.1) → lin (fun K => if K = k then 1 else 0) T = 0
  | [], _ => rfl
  | e :: r, h => by
    unfold lin
    rw [if_neg fun q => h (by rw [← q]; exact List.mem_cons_self), lin_none fun q => h (List.mem_cons_of_mem _ q), Rat.zero_mul, Rat.zero_add]
theorem lin_get {k : Ky σ} : ∀ {T : Tb σ}, (T.map (·.1)).Nodup → lin (fun K => if K = k then 1 else 0) T = (getT T k).getD 0
  | [], _ => rfl
  | e :: r, nd => by
    obtain ⟨h1, h2⟩ := List.nodup_cons.mp (show (e.1 :: r.map (·.1)).Nodup from nd)
    unfold lin getT
    by_cases q : e.1 = k
    · rw [if_pos q, if_pos q, lin_none (by rw [← q]; exact h1), Rat.one_mul, Rat.add_zero]
      rfl
    · rw [if_neg q, if_neg q, lin_get h2, Rat.zero_mul, Rat.zero_add]
end
/-! ### what is left -/
def left (w gone : List Int) : Int := ((((List.range w.length).zip w).filter fun q => !has gone (q.1 : Int)).map fun q => q.2).sum
theorem sum_filter {α : Type} (p : α → Bool) (h : α → Int) : ∀ xs : List α, ((xs.filter p).map h).sum = (xs.map fun x => if p x = true then h x else 0).sum
  | [] => rfl
  | x :: xs => by
    rw [List.filter_cons, List.map_cons, List.sum_cons, ← sum_filter p h xs]
    cases q : p x with
    | true => simp
    | false => simp
theorem zip_range (w : List Int) : (List.range w.length).zip w = (List.range w.length).map fun (i : Nat) => (i, nth w (i : Int)) := by
  refine List.ext_getElem (by simp) fun i h1 h2 => ?_
  rw [List.length_zip, List.length_range, Nat.min_self] at h1
  rw [List.getElem_zip, List.getElem_map]
  simp only [List.getElem_range]
  unfold nth
  rw [List.getD_eq_getElem?_getD, Int.toNat_natCast, List.getElem?_eq_getElem h1]
  rfl
theorem left_eq (w gone : List Int) : left w gone = ((ran w.length).map fun i => if has gone i = true then 0 else nth w i).sum := by
  unfold left
  rw [zip_range, sum_filter]
  unfold ran
  rw [List.map_map, List.map_map]
  congr 1
  refine List.map_congr_left fun i _ => ?_
  show (if (!has gone (i : Int)) = true then nth w (i : Int) else 0) = if has gone (i : Int) = true then 0 else nth w (i : Int)
  cases has gone (i : Int) <;> rfl
theorem sum_but {h : Int → Int} {p : Int} : ∀ {xs : List Int}, xs.Nodup → p ∈ xs → (xs.map fun x => if (x == p) = true then 0 else h x).sum = (xs.map h).sum - h p
  | [], _, hp => by cases hp
  | x :: xs, nd, hp => by
    obtain ⟨h1, h2⟩ := List.nodup_cons.mp nd
    rw [List.map_cons, List.map_cons, List.sum_cons, List.sum_cons]
    by_cases q : x = p
    · subst q
      have e : (xs.map fun y => if (y == x) = true then 0 else h y) = xs.map h := List.map_congr_left fun y hy => by
        rw [if_neg]
        intro z
        exact h1 (by rw [← eq_of_beq z]; exact hy)
      rw [e, if_pos (beq_self_eq_true x)]
      omega
    · rw [if_neg (by simpa using q), sum_but h2 ((List.mem_cons.mp hp).resolve_left fun e => q e.symm)]
      omega
theorem ran_nodup (n : Nat) : (ran n).Nodup := by
  unfold ran
  refine List.pairwise_map.mpr (List.nodup_range.imp fun h e => h ?_)
  omega
theorem left_add {w gone gone' : List Int} {p : Int} (hp : p ∈ ran w.length) (hn : has gone p = false) (h : ∀ x, has gone' x = (has gone x || (x == p))) : left w gone' = left w gone - nth w p := by
  rw [left_eq, left_eq]
  have := sum_but (h := fun i => if has gone i = true then 0 else nth w i) (ran_nodup w.length) hp
  rw [hn] at this
  simp only [Bool.false_eq_true, if_false] at this
  rw [← this]
  congr 1
  refine List.map_congr_left fun x _ => ?_
  rw [h x]
  cases has gone x <;> cases (x == p) <;> rfl
theorem left_nil (w : List Int) : left w [] = w.sum := by
  have e : (fun q : Nat × Int => !has [] (q.1 : Int)) = fun _ => true := rfl
  unfold left
  rw [e, List.filter_eq_self.mpr (fun _ _ => rfl), List.map_snd_zip (by simp)]
theorem sum_nn {h : Int → Int} {c : Int} : ∀ {xs : List Int}, (∀ x ∈ xs, 0 ≤ h x ∧ h x ≤ c) → 0 ≤ (xs.map h).sum ∧ (xs.map h).sum ≤ xs.length * c ∧ ∀ x ∈ xs, h x ≤ (xs.map h).sum
  | [], _ => by simp
  | x :: xs, hx => by
    obtain ⟨h1, h2, h3⟩ := sum_nn (h := h) (c := c) fun y hy => hx y (List.mem_cons_of_mem _ hy)
    obtain ⟨a, b⟩ := hx x List.mem_cons_self
    rw [List.map_cons, List.sum_cons, List.length_cons, Int.natCast_add, Int.add_mul]
    refine ⟨by omega, by omega, fun y hy => ?_⟩
    rcases List.mem_cons.mp hy with e | e
    · subst e; omega
    · have := h3 y e; omega
/-- weights of n people -/
structure WV (n : Nat) (w : List Int) : Prop where
  len : w.length = n
  rng : ∀ x ∈ w, 1 ≤ x ∧ x ≤ 9
theorem WV.nth {n : Nat} {w : List Int} (V : WV n w) {p : Int} (hp : p ∈ ran n) : 1 ≤ nth w p ∧ nth w p ≤ 9 := by
  obtain ⟨h0, h1⟩ := mem_ran.mp hp
  have hl := V.len
  have h : p.toNat < w.length := by omega
  unfold PL.nth
  rw [List.getD_eq_getElem?_getD, List.getElem?_eq_getElem h]
  exact V.rng _ (List.getElem_mem h)
theorem left_rng {n : Nat} {w gone : List Int} (V : WV n w) (h4 : n ≤ 4) : 0 ≤ left w gone ∧ left w gone ≤ 36 ∧ ∀ p ∈ ran n, has gone p = false → nth w p ≤ left w gone := by
  rw [left_eq, V.len]
  obtain ⟨h1, h2, h3⟩ := sum_nn (h := fun i => if has gone i = true then 0 else nth w i) (c := 9) (xs := ran n) fun x hx => by
    have := V.nth hx
    split <;> omega
  rw [ran_length] at h2
  refine ⟨h1, by omega, fun p hp hg => ?_⟩
  have := h3 p hp
  rw [hg] at this
  simpa using this
/-! ### levels -/
section
variable {σ : Type} [DecidableEq σ] (n : Nat) (next : List Int → Int → σ → Option σ) (w : List Int)
def put1 (K : Ky σ) (v : Rat) (more : Tb σ) (p : Int) : Tb σ := if has K.1 p = true then more else match next K.1 p K.2 with
  | none => more
  | some s => addT more (isort (K.1 ++ [p]), s) (v * mkRat (nth w p) (left w K.1).toNat)
def row1 (more : Tb σ) (e : Ky σ × Rat) : Tb σ := (ran n).foldl (put1 next w e.1 e.2) more
def lvl (T : Tb σ) : Tb σ := T.foldl (row1 n next w) []
def cf (f : Ky σ → Rat) (K : Ky σ) (p : Int) : Rat := if has K.1 p = true then 0 else match next K.1 p K.2 with
  | none => 0
  | some s => f (isort (K.1 ++ [p]), s) * mkRat (nth w p) (left w K.1).toNat
def gs (f : Ky σ → Rat) (K : Ky σ) : Rat := sumR ((ran n).map (cf next w f K))
theorem lin_put1 (f : Ky σ → Rat) (K : Ky σ) (v : Rat) (more : Tb σ) (p : Int) : lin f (put1 next w K v more p) = lin f more + cf next w f K p * v := by
  unfold put1 cf
  split
  · rw [Rat.zero_mul, Rat.add_zero]
  · split
    · rw [Rat.zero_mul, Rat.add_zero]
    · rw [lin_addT]
      grind
theorem lin_row (f : Ky σ → Rat) (K : Ky σ) (v : Rat) : ∀ (xs : List Int) (more : Tb σ), lin f (xs.foldl (put1 next w K v) more) = lin f more + sumR (xs.map (cf next w f K)) * v
  | [], more => by show lin f more = lin f more + 0 * v; rw [Rat.zero_mul, Rat.add_zero]
  | x :: xs, more => by
    rw [List.foldl_cons, lin_row f K v xs, lin_put1]
    show _ = lin f more + (cf next w f K x + sumR (xs.map (cf next w f K))) * v
    grind
theorem lin_lvl (f : Ky σ → Rat) : ∀ (T more : Tb σ), lin f (T.foldl (row1 n next w) more) = lin f more + lin (gs n next w f) T
  | [], more => by show lin f more = lin f more + 0; rw [Rat.add_zero]
  | e :: T, more => by
    rw [List.foldl_cons, lin_lvl f T]
    unfold row1
    rw [lin_row]
    show _ = lin f more + (gs n next w f e.1 * e.2 + lin (gs n next w f) T)
    unfold gs
    grind
def tbl (s0 : σ) : Nat → Tb σ
  | 0 => [(([], s0), 1)]
  | k + 1 => lvl n next w (tbl s0 k)
/-! ### orders -/
def pth : Nat → List (List Int)
  | 0 => [[]]
  | k + 1 => (pth k).flatMap fun o => ((ran n).filter fun p => !has o p).map fun p => o ++ [p]
def lotO (o : List Int) : List Int := o.foldl (fun l p => isort (l ++ [p])) []
def sgP (s0 : σ) (o : List Int) : List Int × Option σ := o.foldl (fun a p => (isort (a.1 ++ [p]), a.2.bind (next a.1 p))) ([], some s0)
def sgO (s0 : σ) (o : List Int) : Option σ := (sgP next s0 o).2
def chP (o : List Int) : Rat × Int := o.foldl (fun a p => (a.1 * mkRat (nth w p) a.2.toNat, a.2 - nth w p)) (1, w.sum)
def chO (o : List Int) : Rat := (chP w o).1
theorem lotO_snoc (o : List Int) (p : Int) : lotO (o ++ [p]) = isort (lotO o ++ [p]) := by unfold lotO; rw [List.foldl_append]; rfl
theorem sgP_fst (s0 : σ) (o : List Int) : (sgP next s0 o).1 = lotO o := by
  have : ∀ (o : List Int) (a : List Int × Option σ), (o.foldl (fun a p => (isort (a.1 ++ [p]), a.2.bind (next a.1 p))) a).1 = o.foldl (fun l p => isort (l ++ [p])) a.1 := by
    intro o
    induction o with
    | nil => intro a; rfl
    | cons x o ih => intro a; rw [List.foldl_cons, ih]; rfl
  exact this o _
theorem sgO_snoc (s0 : σ) (o : List Int) (p : Int) : sgO next s0 (o ++ [p]) = (sgO next s0 o).bind (next (lotO o) p) := by
  unfold sgO
  rw [← sgP_fst next s0 o]
  unfold sgP
  rw [List.foldl_append]
  rfl
theorem chP_snoc (o : List Int) (p : Int) : chP w (o ++ [p]) = ((chP w o).1 * mkRat (nth w p) (chP w o).2.toNat, (chP w o).2 - nth w p) := by unfold chP; rw [List.foldl_append]; rfl
theorem mem_insI {x y : Int} : ∀ {l : List Int}, y ∈ insI x l ↔ y = x ∨ y ∈ l
  | [] => by simp [insI]
  | z :: l => by
    unfold insI
    split
    · simp
    · rw [List.mem_cons, mem_insI, List.mem_cons]
      constructor <;> rintro (h | h | h) <;> simp [h]
theorem mem_isort {y : Int} : ∀ {l : List Int}, y ∈ isort l ↔ y ∈ l
  | [] => Iff.rfl
  | x :: l => by unfold isort; rw [mem_insI, mem_isort, List.mem_cons]
theorem len_insI {x : Int} : ∀ {l : List Int}, (insI x l).length = l.length + 1
  | [] => rfl
  | z :: l => by
    unfold insI
    split
    · rfl
    · rw [List.length_cons, len_insI, List.length_cons]
theorem len_isort : ∀ {l : List Int}, (isort l).length = l.length
  | [] => rfl
  | x :: l => by unfold isort; rw [len_insI, len_isort, List.length_cons]
theorem has_isort (l : List Int) (p x : Int) : has (isort (l ++ [p])) x = (has l x || (x == p)) := by
  rw [Bool.eq_iff_iff, Bool.or_eq_true, has_iff, has_iff, mem_isort, List.mem_append, List.mem_singleton, beq_iff_eq]
theorem has_snoc (l : List Int) (p x : Int) : has (l ++ [p]) x = (has l x || (x == p)) := by
  rw [Bool.eq_iff_iff, Bool.or_eq_true, has_iff, has_iff, List.mem_append, List.mem_singleton, beq_iff_eq]
/-- a path and its lot -/
theorem pth_ok (hw : w.length = n) : ∀ (k : Nat), ∀ o ∈ pth n k, (∀ x, has (lotO o) x = has o x) ∧ (chP w o).2 = left w (lotO o) ∧ (∀ x ∈ o, x ∈ ran n) ∧ o.Nodup ∧ o.length = k ∧ (lotO o).length = k
  | 0, o, ho => by
    have : o = [] := by simpa [pth] using ho
    subst this
    exact ⟨fun _ => rfl, (left_nil w).symm, fun _ h => (by cases h), List.nodup_nil, rfl, rfl⟩
  | k + 1, o, ho => by
    obtain ⟨o', ho', h⟩ := List.mem_flatMap.mp ho
    obtain ⟨p, hp, rfl⟩ := List.mem_map.mp h
    obtain ⟨hp1, hp2⟩ := List.mem_filter.mp hp
    have hp2 : has o' p = false := by simpa using hp2
    obtain ⟨i1, i2, i3, i4, i5, i6⟩ := pth_ok hw k o' ho'
    refine ⟨fun x => by rw [lotO_snoc, has_isort, has_snoc, i1], ?_, fun x hx => ?_, ?_, by simp [i5], by rw [lotO_snoc, len_isort, List.length_append, i6]; rfl⟩
    · rw [chP_snoc, lotO_snoc, i2]
      exact (left_add (by rw [hw]; exact hp1) (by rw [i1]; exact hp2) (has_isort _ _)).symm
    · rcases List.mem_append.mp hx with z | z
      · exact i3 x z
      · rw [List.mem_singleton.mp z]; exact hp1
    · refine List.nodup_append.mpr ⟨i4, by simp, fun a ha b hb e => ?_⟩
      rw [List.mem_singleton.mp hb] at e
      subst e
      exact has_false.mp hp2 ha
def val (s0 : σ) (f : Ky σ → Rat) (o : List Int) : Rat := match sgO next s0 o with
  | none => 0
  | some s => f (lotO o, s) * chO w o
theorem sum_part {c v : Int → Rat} {q : Int → Bool} {ch : Rat} : ∀ xs : List Int, (∀ x ∈ xs, (q x = true → c x * ch = v x) ∧ (q x = false → c x = 0)) → sumR (xs.map c) * ch = sumR ((xs.filter q).map v)
  | [], _ => by show 0 * ch = 0; rw [Rat.zero_mul]
  | x :: xs, h => by
    obtain ⟨h1, h2⟩ := h x List.mem_cons_self
    have ih := sum_part xs fun y hy => h y (List.mem_cons_of_mem _ hy)
    rw [List.filter_cons]
    show (c x + sumR (xs.map c)) * ch = _
    rw [Rat.add_mul, ih]
    cases e : q x with
    | true => rw [h1 e]; rfl
    | false => rw [h2 e, Rat.zero_mul, Rat.zero_add]; rfl
theorem sum_zero {v : Int → Rat} : ∀ xs : List Int, (∀ x ∈ xs, v x = 0) → sumR (xs.map v) = 0
  | [], _ => rfl
  | x :: xs, h => by
    show v x + sumR (xs.map v) = 0
    rw [h x List.mem_cons_self, sum_zero xs fun y hy => h y (List.mem_cons_of_mem _ hy), Rat.zero_add]
theorem val_gs (hw : w.length = n) (s0 : σ) (f : Ky σ → Rat) {k : Nat} {o : List Int} (ho : o ∈ pth n k) : val next w s0 (gs n next w f) o = sumR ((((ran n).filter fun p => !has o p).map fun p => o ++ [p]).map (val next w s0 f)) := by
  obtain ⟨i1, i2, _⟩ := pth_ok n w hw k o ho
  rw [List.map_map]
  unfold val
  cases e : sgO next s0 o with
  | none =>
    dsimp only
    rw [sum_zero]
    intro p _
    show (match sgO next s0 (o ++ [p]) with | none => 0 | some s => f (lotO (o ++ [p]), s) * chO w (o ++ [p])) = 0
    rw [sgO_snoc, e]
    rfl
  | some s =>
    dsimp only
    unfold gs
    refine sum_part (ran n) fun p _ => ⟨fun q => ?_, fun q => ?_⟩
    · have q : has o p = false := by simpa using q
      show _ = (match sgO next s0 (o ++ [p]) with | none => 0 | some s => f (lotO (o ++ [p]), s) * chO w (o ++ [p]))
      rw [sgO_snoc, e, lotO_snoc]
      unfold cf
      rw [if_neg (by rw [i1, q]; decide)]
      show (match next (lotO o) p s with | none => 0 | some s => f (isort (lotO o ++ [p]), s) * mkRat (nth w p) (left w (lotO o)).toNat) * chO w o = (match next (lotO o) p s with | none => 0 | some s => f (isort (lotO o ++ [p]), s) * chO w (o ++ [p]))
      cases next (lotO o) p s with
      | none => exact Rat.zero_mul _
      | some s' =>
        dsimp only
        unfold chO
        rw [chP_snoc, i2]
        dsimp only
        grind
    · have q : has o p = true := by simpa using q
      unfold cf
      rw [if_pos (by rw [i1]; exact q)]
theorem lin_tbl (hw : w.length = n) (s0 : σ) : ∀ (k : Nat) (f : Ky σ → Rat), lin f (tbl n next w s0 k) = sumR ((pth n k).map (val next w s0 f))
  | 0, f => by
    show f ([], s0) * 1 + 0 = f ([], s0) * 1 + 0
    rfl
  | k + 1, f => by
    show lin f (lvl n next w (tbl n next w s0 k)) = _
    unfold lvl
    rw [lin_lvl, lin_tbl hw s0 k]
    show 0 + _ = _
    rw [Rat.zero_add]
    have e : (pth n (k + 1)).map (val next w s0 f) = (pth n k).flatMap fun o => (((ran n).filter fun p => !has o p).map fun p => o ++ [p]).map (val next w s0 f) := by
      show ((pth n k).flatMap fun o => ((ran n).filter fun p => !has o p).map fun p => o ++ [p]).map _ = _
      rw [List.map_flatMap]
    rw [e, sumR_flat]
    congr 1
    exact List.map_congr_left fun o ho => val_gs n next w hw s0 f ho
end
theorem pth_perms1 : pth 1 1 = perms 1 := by decide +kernel
theorem pth_perms2 : pth 2 2 = perms 2 := by decide +kernel
theorem pth_perms3 : pth 3 3 = perms 3 := by decide +kernel
theorem pth_perms4 : pth 4 4 = perms 4 := by decide +kernel
theorem pth_perms {n : Nat} (h1 : 1 ≤ n) (h4 : n ≤ 4) : pth n n = perms n := by
  match n, h1, h4 with
  | 1, _, _ => exact pth_perms1
  | 2, _, _ => exact pth_perms2
  | 3, _, _ => exact pth_perms3
  | 4, _, _ => exact pth_perms4
theorem lot_permsB : ([1, 2, 3, 4].all fun n => (perms n).all fun o => lotO o == ran n) = true := by decide +kernel
theorem lot_perms {n : Nat} (h1 : 1 ≤ n) (h4 : n ≤ 4) {o : List Int} (ho : o ∈ perms n) : lotO o = ran n := by
  have hn : n ∈ [1, 2, 3, 4] := by simp; omega
  exact eq_of_beq (List.all_eq_true.mp (List.all_eq_true.mp lot_permsB n hn) o ho)
end PL
end
section
set_option Elab.async false
set_option autoImplicit false
set_option linter.all false
set_option maxRecDepth 100000
set_option maxHeartbeats 1000000
/-! W3: tables as dicts; weights; told holders. -/
namespace PL
section
variable {σ : Type} [DecidableEq σ]
structure EncOk (es : σ → D) : Prop where
  beq : ∀ a b, D.beq (es a) (es b) = decide (a = b)
  key : ∀ a, D.keyOk 2 (es a) = true
abbrev EK (es : σ → D) (K : Ky σ) : D := .tup [TI K.1, es K.2]
abbrev EM (es : σ → D) (T : Tb σ) : List (D × D) := T.map fun e => (EK es e.1, RD e.2)
abbrev ET (es : σ → D) (T : Tb σ) : D := .dkt (EM es T)
variable {es : σ → D} (E : EncOk es)
include E
theorem beq_EK (a b : Ky σ) : D.beq (EK es a) (EK es b) = decide (a = b) := by
  show (D.beq (TI a.1) (TI b.1) && (D.beq (es a.2) (es b.2) && true)) = _
  rw [beq_TI, E.beq, Bool.and_true, Bool.eq_iff_iff, Bool.and_eq_true, beq_iff_eq, decide_eq_true_eq, decide_eq_true_eq, Prod.ext_iff]
omit E [DecidableEq σ] in
theorem keyOk_ints (k : Nat) (l : List Int) : (l.map D.int).all (D.keyOk k) = true := by
  induction l with
  | nil => rfl
  | cons x l ih => rw [List.map_cons, List.all_cons, ih]; cases k <;> rfl
theorem keyT_EK (K : Ky σ) : D.keyT (EK es K) = true := by
  show (((K.1.map D.int).all (D.keyOk 1)) && ((D.keyOk 2 (es K.2)) && true)) = true
  rw [keyOk_ints, E.key]; rfl
theorem getD_ET (k : Ky σ) : ∀ T : Tb σ, getD (EM es T) (EK es k) = (getT T k).map fun q => RD q
  | [] => rfl
  | e :: r => by
    show (if D.beq (EK es e.1) (EK es k) = true then some (RD e.2) else getD (EM es r) (EK es k)) = _
    rw [beq_EK E, getD_ET k r]
    show _ = Option.map _ (if e.1 = k then some e.2 else getT r k)
    by_cases h : e.1 = k
    · rw [if_pos h, if_pos (by simpa using h)]; rfl
    · rw [if_neg h, if_neg (by simpa using h)]
theorem putD_ET (k : Ky σ) (v : Rat) : ∀ T : Tb σ, putD (EM es T) (EK es k) (RD v) = EM es (putT T k v)
  | [] => rfl
  | e :: r => by
    show (if D.beq (EK es e.1) (EK es k) = true then (EK es e.1, RD v) :: EM es r else (EK es e.1, RD e.2) :: putD (EM es r) (EK es k) (RD v)) = _
    rw [beq_EK E, putD_ET k v r]
    show _ = EM es (if e.1 = k then (e.1, v) :: r else e :: putT r k v)
    by_cases h : e.1 = k
    · rw [if_pos h, if_pos (by simpa using h)]; rfl
    · rw [if_neg h, if_neg (by simpa using h)]; rfl
variable {s s' : Sl} {T : Tb σ} {K : Ky σ} {v : Rat} {a k e d : Ex} {i : Nat}
theorem ev_get (hd : Ev d s (ET es T)) (hk : Ev k s (EK es K)) (h : getT T K = some v) : Ev (eBin oGet d k) s (RD v) :=
  ev_bin hd hk (by
    show (if D.keyT (EK es K) = true then getD (EM es T) (EK es K) else none) = _
    rw [if_pos (keyT_EK E K), getD_ET E, h]; rfl)
theorem ev_get3 (hd : Ev d s (ET es T)) (hk : Ev k s (EK es K)) (hv : Ev e s (RD 0)) : Ev (eGet3 d k e) s (RD ((getT T K).getD 0)) := fun r => by
  unfold eGet3
  rw [hd r]; dsimp only
  rw [hk r]; dsimp only
  rw [hv r]; dsimp only
  rw [if_pos (keyT_EK E K), getD_ET E]
  cases getT T K <;> rfl
theorem nx_put (he : Ev e s (RD v)) (hk : Ev k s (EK es K)) (hl : T.length < 1000) (hi : s[i]? = some (some (ET es T)) := by rfl) (hs : s.set i (some (ET es (putT T K v))) = s' := by rfl) : Nx (sPut i k e) s s' := fun r => by
  unfold sPut
  rw [he r]; dsimp only
  rw [hk r]; dsimp only
  rw [hi]; dsimp only
  rw [if_pos ⟨keyT_EK E K, by rw [List.length_map]; exact hl⟩, putD_ET E, hs]
theorem ev_dict1 (hk : Ev k s (EK es K)) (he : Ev e s (RD v)) : Ev (eDict1 k e) s (ET es [(K, v)]) := fun r => by
  unfold eDict1
  rw [hk r]; dsimp only
  rw [he r]; dsimp only
  rw [if_pos (keyT_EK E K)]; rfl
omit E [DecidableEq σ] in
theorem ev_dict0 : Ev eDict0 s (ET es []) := fun r => rfl
omit E [DecidableEq σ] in
theorem av_keys (h : Ev a s (ET es T)) : Av (wKeys a) s (T.map fun e => EK es e.1) := fun r => by
  unfold wKeys; rw [h r]; dsimp only
  rw [List.map_map]; rfl
end
theorem encI : EncOk (σ := Int) D.int := ⟨fun a b => by show (a == b) = _; rw [Bool.eq_iff_iff, beq_iff_eq, decide_eq_true_eq], fun _ => rfl⟩
theorem encL : EncOk (σ := List Int) TI := ⟨fun a b => by rw [beq_TI, Bool.eq_iff_iff, beq_iff_eq, decide_eq_true_eq], fun a => keyOk_ints 1 a⟩
theorem RD0 : RD 0 = .tup [.int 0, .int 1] := rfl
theorem RD1 : RD 1 = .tup [.int 1, .int 1] := rfl
theorem ev_R0 {s : Sl} : Ev (eTup (aCons (eC (.int 0)) (aCons (eC (.int 1)) aNil))) s (RD 0) := ev_tup (av_cons ev_c (av_cons ev_c av_nil)) (by simp)
theorem ev_R1 {s : Sl} : Ev (eTup (aCons (eC (.int 1)) (aCons (eC (.int 1)) aNil))) s (RD 1) := ev_tup (av_cons ev_c (av_cons ev_c av_nil)) (by simp)
theorem oSorted_LI {l : List Int} (h : l.length < 64) : oSorted (LI l) = some (LI (isort l)) := by
  show (match asInts (l.map D.int) with | some is => if is.length < 64 then some (D.lst ((isort is).map .int)) else none | none => none) = _
  rw [asInts_map]
  show (if l.length < 64 then some (D.lst ((isort l).map .int)) else none) = _
  rw [if_pos h]
/-- tuple(sorted([*lot, person])) -/
theorem ev_lot {s : Sl} {l : List Int} {p : Int} {a b : Ex} (ha : Ev a s (TI l)) (hb : Ev b s (.int p)) (hl : l.length < 60) : Ev (eUn oTuple (eUn oSorted (eLst (aStar a (aCons b aNil))))) s (TI (isort (l ++ [p]))) := by
  have h : Ev (eLst (aStar a (aCons b aNil))) s (LI (l ++ [p])) := by
    have e : LI (l ++ [p]) = .lst (l.map D.int ++ [.int p]) := by unfold LI; rw [List.map_append]; rfl
    rw [e]
    exact ev_lst (av_star ha (av_cons hb av_nil)) (by simp; omega)
  exact ev_un (ev_un h (oSorted_LI (by simp; omega))) rfl
theorem oTupRg_n {n : Nat} (h : n ≤ 1000) : oTupRg (.int (n : Int)) = some (TI (ran n)) := by
  show (if 0 ≤ (n : Int) ∧ (n : Int) ≤ 1000 then some (D.tup (rng 0 n)) else none) = _
  rw [if_pos (by omega), rng_ran]
theorem oListRg_n {n : Nat} (h : n ≤ 1000) : oListRg (.int (n : Int)) = some (LI (ran n)) := by
  show (if 0 ≤ (n : Int) ∧ (n : Int) ≤ 1000 then some (D.lst (rng 0 n)) else none) = _
  rw [if_pos (by omega), rng_ran]
/-! ### weights -/
section
variable {n : Nat} {ds w gone : List Int}
theorem fv_left (V : WV n w) (h4 : n ≤ 4) : Fv F_left_weight [TI w, TI gone] (.int (left w gone)) := by
  refine fv_rt (rt_seq1 (rt_ret ?_))
  exact ev_sum (enc := fun q : Nat × Int => D.tup [.int (q.1 : Nat), .int q.2]) (xs := (List.range w.length).zip w) (st := fun q => [some (TI w), some (TI gone), some (.int (q.1 : Nat)), some (.int q.2)]) (p := fun q => !has gone (q.1 : Int)) (k := fun q => q.2) (av_enum (ev_var rfl)) (by rw [List.length_zip, List.length_range, Nat.min_self, V.len]; omega) fun q hq => by
    have r := V.rng _ (List.mem_of_getElem? (mem_enum hq))
    exact ⟨rfl, tv_b (ev_bin (ev_var rfl) (ev_var rfl) (oNotIn_TI _ _)), fun _ => ⟨ev_var rfl, by omega, by omega⟩⟩
theorem fv_are_weights (V : WV n w) : Fv F_are_weights [.int n, TI w] (.bl true) := by
  have A := ev_all (vs := [2]) (e := (eCall F_is_in (aCons (eVar 2) (aCons (eC (.int 1)) (aCons (eC (.int 60)) aNil))))) (tg := gVar 2) (enc := D.int) (xs := w) (st := fun x => [some (.int n), some (TI w), some (.int x)]) (k := fun x => decide (1 ≤ x) && decide (x ≤ 60)) (av_seqT (s := [some (.int n), some (TI w), none]) (a := eVar 1) (ev_var rfl)) fun x hx => ⟨rfl, ev_call (av_cons (ev_var rfl) (av_cons ev_c (av_cons ev_c av_nil))) (fv_is_in _ _ _)⟩
  have e : w.all (fun x => decide (1 ≤ x) && decide (x ≤ 60)) = true := List.all_eq_true.mpr fun x hx => by
    have := V.rng x hx
    simp; omega
  rw [e] at A
  have B := ev_bin (o := oEq) (ev_un (o := oLen) (ev_var (i := 1) (s := [some (.int n), some (TI w), none]) rfl) (oLen_TI w)) (ev_var (i := 0) rfl) (oEq_int _ (n : Int))
  rw [V.len, beq_self_eq_true] at B
  exact fv_rt (rt_seq1 (rt_ret (ev_and (k := true) (l := true) (ev_call (av_cons (ev_var rfl) av_nil) fun _ => rfl) fun _ => ev_and (k := true) (l := true) B fun _ => A)))
theorem fv_need_weighted (V : DVal n ds) (W : WV n w) (h1 : 1 ≤ n) (h4 : n ≤ 4) : Fv F_need_weighted [TI ds, TI w] .non :=
  fv_nx (nx_seq (nx_ex (ev_call (av_cons (ev_var rfl) av_nil) (fv_need V h1 (by omega)))) (nx_seq (nx_if (k := false) (tv_not (k := true) (tv_b (ev_call (av_cons (ev_un (ev_var rfl) (by rw [oLen_TI, V.len])) (av_cons (ev_var rfl) av_nil)) (fv_are_weights W)))) (fun q => by cases q) fun _ => nx_nil) nx_nil))
end
/-! ### told holders -/
abbrev TP (q : Int × List Int) : D := .tup [.int q.1, TI q.2]
abbrev TT (told : List (Int × List Int)) : D := .tup (told.map TP)
structure T1 (n : Nat) (q : Int × List Int) : Prop where
  mem : q.1 ∈ ran n
  nd : q.2.Nodup
  ne : q.2 ≠ []
  last : -1 ∉ q.2.dropLast
  rng : ∀ x ∈ q.2, -1 ≤ x ∧ x < n
  hd : nth q.2 0 = q.1
structure TV (n : Nat) (told : List (Int × List Int)) : Prop where
  one : ∀ q ∈ told, T1 n q
  inc : told.Pairwise fun a b => a.1 < b.1
  len : told.length ≤ 4
section
variable {n : Nat} {ds : List Int} {told : List (Int × List Int)}
theorem fv_is_told {q : Int × List Int} (V : T1 n q) (hn : n ≤ 4) : Fv F_is_told [.int n, TP q] (.bl true) := by
  obtain ⟨p, l⟩ := q
  obtain ⟨p1, p2⟩ := mem_ran.mp V.mem
  have p1 : 0 ≤ p := p1
  have p2 : p < n := p2
  have hl : l.length ≤ 900 := by
    have : l.length ≤ ((-1) :: ran n).length := V.nd.length_le_of_subset fun x hx => by
      have := V.rng x hx
      by_cases e : x = -1
      · rw [e]; exact List.mem_cons_self
      · exact List.mem_cons_of_mem _ (mem_ran.mpr ⟨by omega, this.2⟩)
    rw [List.length_cons, ran_length] at this
    omega
  have c1 : Tv (tOr (tNot (tB (eCall (fIs .tTup) (aCons (eVar 1) aNil)))) (tOr (tB (eBin oNe (eUn oLen (eVar 1)) (eC (.int 2)))) (tNot (tB (eCall F_is_in (aCons (eBin oIx (eVar 1) (eC (.int 0))) (aCons (eC (.int 0)) (aCons (eBin oSub (eVar 0) (eC (.int 1))) aNil)))))))) [some (.int n), some (TP (p, l)), none, none] false := by
    have z := tv_not (tv_b (ev_call (s := [some (.int n), some (TP (p, l)), none, none]) (av_cons (ev_bin (o := oIx) (x := TP (p, l)) (y := .int 0) (z := .int p) (ev_var (i := 1) rfl) ev_c rfl) (av_cons (ev_c (v := .int 0)) (av_cons (ev_bin (ev_var (i := 0) rfl) (ev_c (v := .int 1)) (oSub_int n 1)) av_nil))) (fv_is_in p 0 ((n : Int) - 1))))
    have e : (!(decide ((0 : Int) ≤ p) && decide (p ≤ (n : Int) - 1))) = false := by simp; omega
    rw [e] at z
    exact tv_or (k := false) (l := false) (tv_not (k := true) (tv_b (ev_call (av_cons (ev_var rfl) av_nil) fun _ => rfl))) fun _ => tv_or (k := false) (l := false) (tv_b (ev_bin (x := .int 2) (y := .int 2) (ev_un (x := TP (p, l)) (ev_var rfl) rfl) ev_c rfl)) fun _ => z
  have A := ev_all (vs := [3]) (e := eCall F_is_in (aCons (eVar 3) (aCons (eUn oNeg (eC (.int 1))) (aCons (eBin oSub (eVar 0) (eC (.int 1))) aNil)))) (tg := gVar 3) (enc := D.int) (xs := l)
    (st := fun x : Int => [some (.int n), some (TP (p, l)), some (TI l), some (.int x)]) (k := fun x => decide (-1 ≤ x) && decide (x ≤ (n : Int) - 1)) (av_seqT (s := [some (.int n), some (TP (p, l)), some (TI l), none]) (a := eVar 2) (ev_var rfl)) fun x hx => ⟨rfl, ev_call (av_cons (ev_var rfl) (av_cons (ev_un ev_c rfl) (av_cons (ev_bin (ev_var rfl) ev_c rfl) av_nil))) (fv_is_in _ _ _)⟩
  have e : l.all (fun x => decide (-1 ≤ x) && decide (x ≤ (n : Int) - 1)) = true := List.all_eq_true.mpr fun x hx => by
    have := V.rng x hx
    simp; omega
  rw [e] at A
  have ne : ((l.map D.int).isEmpty) = false := by
    have := V.ne
    cases l with
    | nil => exact absurd rfl this
    | cons x l => rfl
  have tt := tv_tr (a := eVar 2) (s := [some (.int n), some (TP (p, l)), some (TI l), none]) (ds := l.map D.int) (ev_var rfl)
  rw [ne] at tt
  have c2 : Tv (tOr (tNot (tB (eCall (fIs .tTup) (aCons (eVar 2) aNil)))) (tOr (tNot (tTr (eVar 2))) (tNot (tB (eAll [3] (wSeq (eVar 2)) (gVar 3) tYes (eCall F_is_in (aCons (eVar 3) (aCons (eUn oNeg (eC (.int 1))) (aCons (eBin oSub (eVar 0) (eC (.int 1))) aNil))))))))) [some (.int n), some (TP (p, l)), some (TI l), none] false :=
    tv_or (k := false) (l := false) (tv_not (k := true) (tv_b (ev_call (av_cons (ev_var rfl) av_nil) fun _ => rfl))) fun _ => tv_or (k := false) (l := false) (tv_not (k := true) tt) fun _ => tv_not (k := true) (tv_b A)
  have B := ev_bin (o := oEq) (ev_un (o := oLen) (ev_compI (vs := [3]) (w := wSeq (eVar 2)) (k := eVar 3) (tg := gVar 3) (st := fun x : Int => [some (.int n), some (TP (p, l)), some (TI l), some (.int x)]) (s := [some (.int n), some (TP (p, l)), some (TI l), none]) (av_seqT (ev_var rfl)) (by omega) (fun x hx => ⟨rfl, ev_var rfl, ev_c (v := .bl true)⟩) V.nd) (y := .int l.length) (by show some (D.int ((l.map fun x => (x, D.bl true)).length)) = _; rw [List.length_map])) (ev_un (o := oLen) (ev_var (i := 2) rfl) (oLen_TI l)) (oEq_int _ _)
  rw [beq_self_eq_true] at B
  have tk : oTo (TI l) (.int (-1)) = some (TI l.dropLast) := by
    show (if (0 : Int) ≤ -1 then some (D.tup ((l.map D.int).take (-1 : Int).toNat)) else if (-1 : Int) = -1 then some (D.tup ((l.map D.int).take ((l.map D.int).length - 1))) else none) = _
    rw [if_neg (by decide), if_pos rfl, ← List.dropLast_eq_take, ← List.map_dropLast]
  have Cc := ev_bin (o := oNotIn) (ev_un (o := oNeg) (x := .int 1) (y := .int (-1)) (s := [some (.int n), some (TP (p, l)), some (TI l), none]) ev_c rfl) (ev_bin (o := oTo) (ev_var (i := 2) rfl) (ev_un (o := oNeg) (x := .int 1) (y := .int (-1)) ev_c rfl) tk) (oNotIn_TI _ _)
  have hlast : has l.dropLast (-1) = false := has_false.mpr V.last
  rw [hlast] at Cc
  exact fv_rt (rt_seq (nx_if c1 (fun q => by cases q) fun _ => nx_nil) (rt_seq (nx_set (ev_bin (x := TP (p, l)) (y := .int 1) (ev_var rfl) ev_c rfl)) (rt_seq (nx_if c2 (fun q => by cases q) fun _ => nx_nil) (rt_seq1 (rt_ret (ev_and (k := true) (l := true) B fun _ => Cc))))))
theorem zip_enumG {α : Type} (f : α → D) : ∀ (l : List α) (k : List Nat), k.zipWith (fun i d => D.tup [.int (i : Nat), d]) (l.map f) = (k.zip l).map fun q => .tup [.int (q.1 : Nat), f q.2]
  | [], k => by cases k <;> rfl
  | x :: l, [] => rfl
  | x :: l, i :: k => by rw [List.map_cons, List.zipWith_cons_cons, zip_enumG f l k]; rfl
theorem av_enumG {α : Type} (f : α → D) {a : Ex} {s : Sl} {l : List α} (h : Ev a s (.tup (l.map f))) : Av (wEnum a) s (((List.range l.length).zip l).map fun q => .tup [.int (q.1 : Nat), f q.2]) := fun r => by
  unfold wEnum; rw [h r]; dsimp only
  rw [List.length_map, zip_enumG f]
theorem mem_enumG {α : Type} {l : List α} {q : Nat × α} (h : q ∈ (List.range l.length).zip l) : l[q.1]? = some q.2 := by
  obtain ⟨i, hi, e⟩ := List.mem_iff_getElem.mp h
  rw [List.getElem_zip] at e
  rw [List.length_zip, List.length_range] at hi
  subst e
  simp
theorem fv_need_told (V : DVal n ds) (T : TV n told) (h1 : 1 ≤ n) (h4 : n ≤ 4) : Fv F_need_told [TI ds, TT told] .non := by
  obtain ⟨_, j', L⟩ := nx_for (g := gTup [(gVar 2), (gVar 3)]) (w := wEnum (eVar 1)) (b := (sSeq (sIf (tOr (tNot (tB (eCall F_is_told (aCons (eUn oLen (eVar 0)) (aCons (eVar 3) aNil))))) (tAnd (tB (eBin oGt (eVar 2) (eC (.int 0)))) (tB (eBin oLe (eBin oIx (eVar 3) (eC (.int 0))) (eBin oIx (eBin oIx (eVar 1) (eBin oSub (eVar 2) (eC (.int 1)))) (eC (.int 0))))))) (sSeq sNever sNil) sNil) sNil))
    (enc := fun q : Nat × (Int × List Int) => D.tup [.int (q.1 : Nat), TP q.2]) (xs := (List.range told.length).zip told) (S := fun (_ : Unit) (j : Option D × Option D) => [some (TI ds), some (TT told), j.1, j.2]) (fun _ => True) (fun a _ => a) (a := ()) (j := (none, none)) (av_enumG TP (ev_var rfl)) trivial fun a q j _ hq => by
      have h := mem_enumG hq
      obtain ⟨i, p⟩ := q
      have h : told[i]? = some p := h
      refine ⟨trivial, [some (TI ds), some (TT told), some (.int (i : Nat)), some (TP p)], (some (.int (i : Nat)), some (TP p)), rfl, ?_⟩
      have t1 := tv_not (k := true) (tv_b (ev_call (s := [some (TI ds), some (TT told), some (.int (i : Nat)), some (TP p)]) (av_cons (ev_un (o := oLen) (ev_var (i := 0) rfl) (y := .int n) (by rw [oLen_TI, V.len])) (av_cons (ev_var (i := 3) rfl) av_nil)) (fv_is_told (T.one p (List.mem_of_getElem? h)) h4)))
      have t2 := tv_b (ev_bin (s := [some (TI ds), some (TT told), some (.int (i : Nat)), some (TP p)]) (ev_var (i := 2) rfl) (ev_c (v := .int 0)) (oGt_int i 0))
      have t3 : Tv (tAnd (tB (eBin oGt (eVar 2) (eC (.int 0)))) (tB (eBin oLe (eBin oIx (eVar 3) (eC (.int 0))) (eBin oIx (eBin oIx (eVar 1) (eBin oSub (eVar 2) (eC (.int 1)))) (eC (.int 0)))))) [some (TI ds), some (TT told), some (.int (i : Nat)), some (TP p)] false := by
        cases i with
        | zero => exact tv_and (k := false) (l := false) t2 fun q => by cases q
        | succ i =>
          obtain ⟨hlt, hp⟩ := List.getElem?_eq_some_iff.mp h
          have hlt' : i < told.length := by omega
          have hlt2 : told[i].1 < p.1 := by
            have := List.pairwise_iff_getElem.mp T.inc i (i + 1) hlt' hlt (by omega)
            rwa [hp] at this
          have ix : oIx (TT told) (.int (((i + 1 : Nat) : Int) - 1)) = some (TP told[i]) := by
            show (match ixOf (told.map TP).length (((i + 1 : Nat) : Int) - 1) with | some j => (told.map TP)[j]? | none => none) = _
            rw [List.length_map, ixOf_nn (by omega) (by omega)]
            have e : (((i + 1 : Nat) : Int) - 1).toNat = i := by omega
            rw [e]
            show (told.map TP)[i]? = _
            rw [List.getElem?_map, List.getElem?_eq_getElem hlt']
            rfl
          have t4 := tv_b (ev_bin (s := [some (TI ds), some (TT told), some (.int ((i + 1 : Nat) : Int)), some (TP p)]) (o := oLe) (ev_bin (o := oIx) (x := TP p) (y := .int 0) (z := .int p.1) (ev_var (i := 3) rfl) ev_c rfl) (ev_bin (o := oIx) (x := TP told[i]) (y := .int 0) (z := .int told[i].1) (ev_bin (o := oIx) (ev_var (i := 1) rfl) (ev_bin (ev_var (i := 2) rfl) (ev_c (v := .int 1)) (oSub_int _ _)) ix) ev_c rfl) (z := .bl (decide (p.1 ≤ told[i].1))) rfl)
          rw [decide_eq_false (by omega)] at t4
          rw [decide_eq_true (by omega)] at t2
          exact tv_and (k := true) (l := false) t2 fun _ => t4
      exact nx_seq (nx_if (k := false) (tv_or (k := false) (l := false) t1 fun _ => t3) (fun q => by cases q) fun _ => nx_nil) nx_nil
  have tn := tv_not (k := true) (tv_b (ev_call (f := fIs .tTup) (s := [some (TI ds), some (TT told), none, none]) (v := .bl true) (av_cons (ev_var (i := 1) rfl) av_nil) fun _ => rfl))
  exact fv_nx (nx_seq (nx_ex (ev_call (av_cons (ev_var rfl) av_nil) (fv_need V h1 (by omega)))) (nx_seq (nx_if tn (fun q => by cases q) fun _ => nx_nil) (nx_seq L nx_nil)))
theorem fv_begins (T : TV n told) : Fv F_begins [TI ds, TT told] (TI (told.map fun _ => 1)) := by
  have A := ev_any (vs := [2, 3]) (w := wSeq (eVar 1)) (e := eBin oNe (eBin oIx (eVar 3) (eC (.int 0))) (eVar 2)) (tg := gTup [(gVar 2), (gVar 3)]) (enc := TP) (xs := told) (s := [some (TI ds), some (TT told), none, none, none])
    (st := fun q => [some (TI ds), some (TT told), some (.int q.1), some (TI q.2), none]) (k := fun q => !(nth q.2 0 == q.1)) (av_seqT (ev_var rfl)) fun q hq => by
      have V := T.one q hq
      have hl : 0 < q.2.length := List.length_pos_iff.mpr V.ne
      exact ⟨rfl, ev_bin (ev_bin (ev_var rfl) ev_c (oIx_TI (by decide) (by omega))) (ev_var rfl) (oNe_int _ _)⟩
  have e : told.any (fun q => !(nth q.2 0 == q.1)) = false := by
    refine Bool.eq_false_iff.mpr fun h => ?_
    obtain ⟨q, hq, z⟩ := List.any_eq_true.mp h
    rw [(T.one q hq).hd, beq_self_eq_true] at z
    cases z
  rw [e] at A
  have c : Ev (eComp [4] (wSeq (eVar 1)) (gVar 4) tYes (eC (.int 1))) [some (TI ds), some (TT told), none, none, none] (LI (told.map fun _ => 1)) := by
    unfold LI
    rw [List.map_map]
    exact ev_comp' (enc := TP) (F := D.int ∘ fun _ => 1) (st := fun q => [some (TI ds), some (TT told), none, none, some (TP q)]) (av_seqT (ev_var rfl)) (by have := T.len; omega) fun q hq => ⟨rfl, ev_c⟩
  exact fv_rt (rt_seq (nx_if (k := false) (tv_b A) (fun q => by cases q) fun _ => nx_nil) (rt_seq1 (rt_ret (ev_un c rfl))))
end
end PL
end
section
set_option Elab.async false
set_option autoImplicit false
set_option linter.all false
set_option maxRecDepth 100000
set_option maxHeartbeats 1000000
/-! W4: goes_on, and what it has to do with the law's traces. -/
namespace PL
def go1 (h : Int) (s : List Int) (m : Int) : Option Int := if (h == nth s (m - 1)) = true then some m else if (decide (m < s.length) && nth s m == h) = true then some (m + 1) else none
def goesL (ds gone : List Int) : List ((Int × List Int) × Int) → Option (List Int)
  | [] => some []
  | q :: r => match go1 (holder ds gone q.1.1) q.1.2 q.2 with
    | none => none
    | some m => match goesL ds gone r with
      | none => none
      | some l => some (m :: l)
def goS (ds gone : List Int) (found : List Int) (q : (Int × List Int) × Int) : List Int ⊕ D := match go1 (holder ds gone q.1.1) q.1.2 q.2 with
  | none => .inr .non
  | some m => .inl (found ++ [m])
theorem goS_fold (ds gone : List Int) : ∀ (xs : List ((Int × List Int) × Int)) (found : List Int), foldR (goS ds gone) found xs = (match goesL ds gone xs with
  | none => .inr .non
  | some l => .inl (found ++ l))
  | [], found => by show Sum.inl found = Sum.inl (found ++ []); rw [List.append_nil]
  | q :: xs, found => by
    unfold foldR goesL goS
    cases go1 (holder ds gone q.1.1) q.1.2 q.2 with
    | none => rfl
    | some m =>
      dsimp only
      have ih := goS_fold ds gone xs (found ++ [m])
      unfold goS at ih
      rw [ih]
      cases goesL ds gone xs with
      | none => rfl
      | some l => simp
abbrev TPI (q : (Int × List Int) × Int) : D := .tup [TP q.1, .int q.2]
theorem zip_told : ∀ (told : List (Int × List Int)) (come : List Int), (told.map TP).zipWith (fun d e => D.tup [d, e]) (come.map D.int) = (told.zip come).map TPI
  | [], _ => rfl
  | _ :: _, [] => rfl
  | q :: told, m :: come => by rw [List.map_cons, List.map_cons, List.zipWith_cons_cons, List.zip_cons_cons, List.map_cons, zip_told told come]
theorem av_zipT {a b : Ex} {s : Sl} {told : List (Int × List Int)} {come : List Int} (ha : Ev a s (TT told)) (hb : Ev b s (TI come)) : Av (wZip a b) s ((told.zip come).map TPI) := fun r => by
  unfold wZip; rw [ha r]; dsimp only; rw [hb r]; dsimp only
  rw [zip_told]
/-- how many came -/
structure CV (told : List (Int × List Int)) (come : List Int) : Prop where
  len : come.length = told.length
  rng : ∀ q ∈ told.zip come, 1 ≤ q.2 ∧ q.2 ≤ q.1.2.length
def optTI : Option (List Int) → D
  | none => .non
  | some l => TI l
theorem oLt_int (a b : Int) : oLt (.int a) (.int b) = some (.bl (decide (a < b))) := rfl
theorem foldR_congr {α A : Type} {f g : A → α → A ⊕ D} (h : ∀ a x, f a x = g a x) : ∀ (xs : List α) (a : A), foldR f a xs = foldR g a xs
  | [], _ => rfl
  | x :: xs, a => by
    unfold foldR
    rw [h a x]
    cases g a x with
    | inl a1 => exact foldR_congr h xs a1
    | inr d => rfl
section
variable {n : Nat} {ds gone come : List Int} {told : List (Int × List Int)}
theorem fv_goes_on (V : Val n ds) (hn : n ≤ 4) (T : TV n told) (C : CV told come) : Fv F_goes_on [TI ds, TT told, TI come, TI gone] (optTI (goesL ds gone (told.zip come))) := by
  have hzl : (told.zip come).length ≤ 4 := by rw [List.length_zip]; have := T.len; omega
  have L := for_rt (g := gTup [(gTup [(gVar 6), (gVar 7)]), (gVar 8)]) (w := wZip (eVar 1) (eVar 2)) (b := (sSeq (sSet 9 (eBin oIx (eVar 5) (eVar 6))) (sSeq (sIf (tB (eBin oEq (eVar 9) (eBin oIx (eVar 7) (eBin oSub (eVar 8) (eC (.int 1)))))) (sSeq (sApp 4 (eVar 8)) sNil) (sSeq (sIf (tAnd (tB (eBin oLt (eVar 8) (eUn oLen (eVar 7)))) (tB (eBin oEq (eBin oIx (eVar 7) (eVar 8)) (eVar 9)))) (sSeq (sApp 4 (eBin oAdd (eVar 8) (eC (.int 1)))) sNil) (sSeq (sRet (eC .non)) sNil)) sNil)) sNil)))
    (enc := TPI) (xs := told.zip come) (S := fun (a : List Int) (j : Option D × Option D × Option D × Option D) => [some (TI ds), some (TT told), some (TI come), some (TI gone), some (LI a), some (LI (holders ds gone)), j.1, j.2.1, j.2.2.1, j.2.2.2])
    (fun i a => a.length ≤ i) (goS ds gone) (a := []) (j := (none, none, none, none)) (av_zipT (ev_var rfl) (ev_var rfl)) (Nat.le_refl _) fun i a q j hi hI hq => by
      obtain ⟨⟨p, l⟩, m⟩ := q
      have hp : p ∈ ran n := (T.one _ (List.of_mem_zip hq).1).mem
      obtain ⟨m1, m2⟩ := C.rng _ hq
      have m1 : 1 ≤ m := m1
      have m2 : m ≤ l.length := m2
      refine ⟨[some (TI ds), some (TT told), some (TI come), some (TI gone), some (LI a), some (LI (holders ds gone)), some (.int p), some (TI l), some (.int m), j.2.2.2], rfl, ?_⟩
      generalize hh : holder ds gone p = h
      have ss : Nx (sSet 9 (eBin oIx (eVar 5) (eVar 6))) [some (TI ds), some (TT told), some (TI come), some (TI gone), some (LI a), some (LI (holders ds gone)), some (.int p), some (TI l), some (.int m), j.2.2.2] [some (TI ds), some (TT told), some (TI come), some (TI gone), some (LI a), some (LI (holders ds gone)), some (.int p), some (TI l), some (.int m), some (.int h)] := by
        rw [← hh]
        exact nx_set (ev_bin (ev_var rfl) (ev_var rfl) (nth_holders V hp))
      have t1 : Tv (tB (eBin oEq (eVar 9) (eBin oIx (eVar 7) (eBin oSub (eVar 8) (eC (.int 1)))))) [some (TI ds), some (TT told), some (TI come), some (TI gone), some (LI a), some (LI (holders ds gone)), some (.int p), some (TI l), some (.int m), some (.int h)] (h == nth l (m - 1)) :=
        tv_b (ev_bin (ev_var rfl) (ev_bin (ev_var rfl) (ev_bin (ev_var rfl) ev_c (oSub_int _ _)) (oIx_TI (by omega) (by omega))) (oEq_int _ _))
      have t2 : Tv (tAnd (tB (eBin oLt (eVar 8) (eUn oLen (eVar 7)))) (tB (eBin oEq (eBin oIx (eVar 7) (eVar 8)) (eVar 9)))) [some (TI ds), some (TT told), some (TI come), some (TI gone), some (LI a), some (LI (holders ds gone)), some (.int p), some (TI l), some (.int m), some (.int h)] (decide (m < l.length) && nth l m == h) :=
        tv_and (tv_b (ev_bin (ev_var rfl) (ev_un (ev_var rfl) (oLen_TI l)) (oLt_int _ _))) fun q => tv_b (ev_bin (ev_bin (ev_var rfl) (ev_var rfl) (oIx_TI (by omega) (by simpa using q))) (ev_var rfl) (oEq_int _ _))
      unfold goS go1
      dsimp only
      rw [hh]
      by_cases q1 : (h == nth l (m - 1)) = true
      · rw [if_pos q1]
        rw [q1] at t1
        exact ⟨by rw [List.length_append, List.length_singleton]; omega, (some (.int p), some (TI l), some (.int m), some (.int h)), nx_seq ss (nx_seq (nx_if t1 (fun _ => nx_seq (nx_appI (l := a) (ev_var rfl) (by omega)) nx_nil) fun q => by cases q) nx_nil)⟩
      · rw [if_neg q1]
        have q1' : (h == nth l (m - 1)) = false := by simpa using q1
        rw [q1'] at t1
        by_cases q2 : (decide (m < l.length) && nth l m == h) = true
        · rw [if_pos q2]
          rw [q2] at t2
          exact ⟨by rw [List.length_append, List.length_singleton]; omega, (some (.int p), some (TI l), some (.int m), some (.int h)), nx_seq ss (nx_seq (nx_if t1 (fun q => by cases q) fun _ => nx_seq (nx_if t2 (fun _ => nx_seq (nx_appI (l := a) (ev_bin (ev_var rfl) ev_c (oAdd_int _ _)) (by omega)) nx_nil) fun q => by cases q) nx_nil) nx_nil)⟩
        · rw [if_neg q2]
          have q2' : (decide (m < l.length) && nth l m == h) = false := by simpa using q2
          rw [q2'] at t2
          exact rt_seq ss (rt_seq1 (rt_if t1 (fun q => by cases q) fun _ => rt_seq1 (rt_if t2 (fun q => by cases q) fun _ => rt_seq1 (rt_ret ev_c))))
  rw [goS_fold] at L
  refine fv_rt (rt_seq (nx_par (av_cons (ev_lst av_nil (by decide)) (av_cons (ev_call (av_cons (ev_var rfl) (av_cons (ev_var rfl) av_nil)) (fv_holders V (stops_of V) (by omega))) av_nil))) ?_)
  cases q : goesL ds gone (told.zip come) with
  | none =>
    rw [q] at L
    exact rt_seq1 L
  | some l =>
    rw [q] at L
    obtain ⟨_, j', L⟩ := L
    exact rt_seq L (rt_seq1 (rt_ret (ev_un (ev_var rfl) rfl)))
end
theorem go1_rng {h m m' : Int} {s : List Int} (h1 : 1 ≤ m) (h2 : m ≤ s.length) (e : go1 h s m = some m') : 1 ≤ m' ∧ m' ≤ s.length := by
  unfold go1 at e
  split at e
  · cases e; exact ⟨h1, h2⟩
  · split at e
    · rename_i q
      cases e
      simp at q
      omega
    · cases e
theorem goesL_cv {ds gone : List Int} : ∀ {told : List (Int × List Int)} {come l : List Int}, CV told come → goesL ds gone (told.zip come) = some l → CV told l
  | [], come, l, C, e => by
    cases e
    exact ⟨rfl, fun _ h => by cases h⟩
  | q :: told, [], l, C, e => by have := C.len; cases this
  | q :: told, m :: come, l, C, e => by
    rw [List.zip_cons_cons] at e
    unfold goesL at e
    cases e1 : go1 (holder ds gone q.1) q.2 m with
    | none => rw [e1] at e; cases e
    | some m' =>
      rw [e1] at e
      dsimp only at e
      cases e2 : goesL ds gone (told.zip come) with
      | none => rw [e2] at e; cases e
      | some l' =>
        rw [e2] at e
        cases e
        have C' : CV told come := ⟨by have := C.len; simpa using this, fun q hq => C.rng q (List.mem_cons_of_mem _ hq)⟩
        have ih := goesL_cv C' e2
        obtain ⟨c1, c2⟩ := C.rng (q, m) List.mem_cons_self
        refine ⟨by simp [ih.len], fun x hx => ?_⟩
        rcases List.mem_cons.mp hx with z | z
        · subst z; exact go1_rng c1 c2 e1
        · exact ih.rng x z
/-! ### traces -/
theorem holder_congr {ds g g' : List Int} (h : ∀ x, has g x = has g' x) (p : Int) : holder ds g p = holder ds g' p := by
  unfold holder
  congr 1
  congr 1
  funext c
  rw [h]
theorem goesL_congr {ds g g' : List Int} (h : ∀ x, has g x = has g' x) : ∀ l, goesL ds g l = goesL ds g' l
  | [] => rfl
  | q :: r => by unfold goesL; rw [holder_congr h, goesL_congr h r]
theorem foldl_congrL {α A : Type} {f g : A → α → A} : ∀ (xs : List α) (a : A), (∀ a, ∀ x ∈ xs, f a x = g a x) → xs.foldl f a = xs.foldl g a
  | [], _, _ => rfl
  | x :: xs, a, h => by
    rw [List.foldl_cons, List.foldl_cons, h a x List.mem_cons_self]
    exact foldl_congrL xs _ fun a y hy => h a y (List.mem_cons_of_mem _ hy)
theorem ran_succ (n : Nat) : ran (n + 1) = ran n ++ [(n : Int)] := by unfold ran; rw [List.range_succ, List.map_append]; rfl
theorem traceL_nil (ds : List Int) (p : Int) : traceL ds [] p = [p] := rfl
theorem traceL_snoc (ds o : List Int) (q p : Int) : traceL ds (o ++ [q]) p = stepD (traceL ds o p) (holder ds (o ++ [q]) p) := by
  unfold traceL
  rw [List.length_append, List.length_singleton, ran_succ, List.foldl_append]
  have e1 : (o ++ [q]).take ((o.length : Int) + 1).toNat = o ++ [q] := by rw [List.take_of_length_le]; simp
  show stepD _ (holder ds ((o ++ [q]).take ((o.length : Int) + 1).toNat) p) = _
  rw [e1]
  congr 1
  refine foldl_congrL _ _ fun a k hk => ?_
  obtain ⟨k1, k2⟩ := mem_ran.mp hk
  rw [List.take_append_of_le_length (by omega)]
theorem traceL_ne (ds : List Int) (p : Int) : ∀ o : List Int, traceL ds o p ≠ [] := by
  have : ∀ (xs : List Int) (f : Int → Int) (a : List Int), a ≠ [] → xs.foldl (fun a k => stepD a (f k)) a ≠ [] := by
    intro xs f
    induction xs with
    | nil => intro a h; exact h
    | cons x xs ih =>
      intro a h
      rw [List.foldl_cons]
      refine ih _ ?_
      unfold stepD
      split
      · simp
      · exact h
  exact fun o => this _ _ _ (by simp)
def preB (t s : List Int) : Bool := s.take t.length == t
theorem pre_snoc {t s : List Int} {h : Int} : preB (t ++ [h]) s = (preB t s && (decide (t.length < s.length) && nth s t.length == h)) := by
  unfold preB
  rw [Bool.eq_iff_iff, Bool.and_eq_true, Bool.and_eq_true, beq_iff_eq, beq_iff_eq, beq_iff_eq, decide_eq_true_eq, List.length_append, List.length_singleton]
  constructor
  · intro e
    have hl := congrArg List.length e
    rw [List.length_take, List.length_append, List.length_singleton] at hl
    have hlt : t.length < s.length := by omega
    rw [List.take_succ_eq_append_getElem hlt] at e
    obtain ⟨e1, e2⟩ := List.append_inj' e rfl
    refine ⟨e1, hlt, ?_⟩
    unfold nth
    rw [List.getD_eq_getElem?_getD, Int.toNat_natCast, List.getElem?_eq_getElem hlt]
    simpa using e2
  · rintro ⟨e1, hlt, e2⟩
    rw [List.take_succ_eq_append_getElem hlt, e1]
    unfold nth at e2
    rw [List.getD_eq_getElem?_getD, Int.toNat_natCast, List.getElem?_eq_getElem hlt] at e2
    simp at e2
    rw [e2]
theorem last_pre {t s : List Int} (hn : t ≠ []) (h : preB t s = true) : nth s ((t.length : Int) - 1) = lastI t ∧ t.length ≤ s.length := by
  have e := eq_of_beq h
  have hl := congrArg List.length e
  rw [List.length_take] at hl
  have hp : 0 < t.length := List.length_pos_iff.mpr hn
  have hlt : t.length - 1 < s.length := by omega
  refine ⟨?_, by omega⟩
  unfold nth lastI
  have e1 : ((t.length : Int) - 1).toNat = t.length - 1 := by omega
  rw [e1, List.getD_eq_getElem?_getD, List.getLast?_eq_getElem?, List.getElem?_eq_getElem hlt, List.getElem?_eq_getElem (by omega)]
  have := congrArg (fun l => l[t.length - 1]?) e
  simp only [List.getElem?_take] at this
  rw [if_pos (by omega), List.getElem?_eq_getElem hlt, List.getElem?_eq_getElem (by omega)] at this
  simp only [Option.some.injEq] at this
  simp [this]
/-- one told: the next trace fits just when goes_on says so -/
theorem go1_trace {t s : List Int} {h : Int} (hn : t ≠ []) (hp : preB t s = true) : go1 h s (t.length : Int) = if preB (stepD t h) s = true then some ((stepD t h).length : Int) else none := by
  obtain ⟨e1, e2⟩ := last_pre hn hp
  unfold go1 stepD
  rw [e1]
  by_cases q : (h == lastI t) = true
  · rw [if_pos q, q]
    simp [hp]
  · have q' : (h == lastI t) = false := by simpa using q
    rw [if_neg q, q']
    simp only [Bool.not_false, if_true]
    rw [pre_snoc, hp, Bool.true_and]
    have e3 : decide ((t.length : Int) < (s.length : Int)) = decide (t.length < s.length) := by
      by_cases z : t.length < s.length
      · rw [decide_eq_true z, decide_eq_true (by omega)]
      · rw [decide_eq_false z, decide_eq_false (by omega)]
    rw [e3, List.length_append, List.length_singleton]
    rfl
theorem pre_step {t s : List Int} {h : Int} (hp : preB t s = false) : preB (stepD t h) s = false := by
  unfold stepD
  split
  · rw [pre_snoc, hp]; rfl
  · exact hp
section
variable (ds : List Int) (told : List (Int × List Int))
def fits (o : List Int) : Bool := told.all fun q => preB (traceL ds o q.1) q.2
def lens (o : List Int) : List Int := told.map fun q => ((traceL ds o q.1).length : Int)
def nxT (gone : List Int) (p : Int) (come : List Int) : Option (List Int) := goesL ds (isort (gone ++ [p])) (told.zip come)
theorem goesL_trace (o : List Int) (p : Int) : ∀ told : List (Int × List Int), fits ds told o = true → goesL ds (o ++ [p]) (told.zip (lens ds told o)) = if fits ds told (o ++ [p]) = true then some (lens ds told (o ++ [p])) else none
  | [], _ => rfl
  | q :: told, h => by
    obtain ⟨h1, h2⟩ := (Bool.and_eq_true _ _).mp (show (preB (traceL ds o q.1) q.2 && fits ds told o) = true from h)
    have ih := goesL_trace o p told h2
    show (match go1 (holder ds (o ++ [p]) q.1) q.2 ((traceL ds o q.1).length : Int) with
      | none => none
      | some m => match goesL ds (o ++ [p]) (told.zip (lens ds told o)) with
        | none => none
        | some l => some (m :: l)) = if (preB (traceL ds (o ++ [p]) q.1) q.2 && fits ds told (o ++ [p])) = true then some (((traceL ds (o ++ [p]) q.1).length : Int) :: lens ds told (o ++ [p])) else none
    rw [go1_trace (traceL_ne ds q.1 o) h1, ih, ← traceL_snoc]
    cases preB (traceL ds (o ++ [p]) q.1) q.2 with
    | false => rfl
    | true =>
      cases fits ds told (o ++ [p]) with
      | false => rfl
      | true => rfl
theorem fits_step (o : List Int) (p : Int) (h : fits ds told o = false) : fits ds told (o ++ [p]) = false := by
  refine Bool.eq_false_iff.mpr fun z => ?_
  refine Bool.eq_false_iff.mp h (List.all_eq_true.mpr fun q hq => ?_)
  have := List.all_eq_true.mp z q hq
  rw [traceL_snoc] at this
  cases e : preB (traceL ds o q.1) q.2 with
  | true => rfl
  | false => rw [pre_step e] at this; cases this
theorem lot_has : ∀ o : List Int, ∀ x, has (lotO o) x = has o x := by
  have : ∀ (o l : List Int) (x : Int), has (o.foldl (fun l p => isort (l ++ [p])) l) x = (has l x || has o x) := by
    intro o
    induction o with
    | nil => intro l x; simp [has]
    | cons y o ih =>
      intro l x
      rw [List.foldl_cons, ih, has_isort]
      have : has (y :: o) x = ((y == x) || has o x) := rfl
      rw [this]
      have e : (y == x) = (x == y) := by rw [Bool.eq_iff_iff, beq_iff_eq, beq_iff_eq]; exact ⟨Eq.symm, Eq.symm⟩
      rw [e, Bool.or_assoc]
  intro o x
  unfold lotO
  rw [this]
  rfl
theorem sgO_told (h0 : ∀ q ∈ told, preB [q.1] q.2 = true) : ∀ (k n : Nat), ∀ o ∈ pth n k, sgO (nxT ds told) (told.map fun _ => 1) o = if fits ds told o = true then some (lens ds told o) else none
  | 0, n, o, ho => by
    have : o = [] := by simpa [pth] using ho
    subst this
    have f : fits ds told [] = true := List.all_eq_true.mpr fun q hq => by rw [traceL_nil]; exact h0 q hq
    rw [f]
    rfl
  | k + 1, n, o, ho => by
    obtain ⟨o', ho', h⟩ := List.mem_flatMap.mp ho
    obtain ⟨p, hp, rfl⟩ := List.mem_map.mp h
    rw [sgO_snoc, sgO_told h0 k n o' ho']
    cases f : fits ds told o' with
    | false => rw [fits_step ds told o' p f]; rfl
    | true =>
      have := goesL_trace ds o' p told f
      rw [← this]
      show goesL ds (isort (lotO o' ++ [p])) (told.zip (lens ds told o')) = _
      exact goesL_congr (fun x => by rw [has_isort, has_snoc, lot_has]) _
/-- all came -/
def allC (come : List Int) : Bool := (told.zip come).all fun q => q.2 == (q.1.2.length : Int)
def same (o : List Int) : Bool := told.all fun q => traceL ds o q.1 == q.2
theorem same_iff (o : List Int) : ∀ told : List (Int × List Int), (fits ds told o && allC told (lens ds told o)) = same ds told o
  | [] => rfl
  | q :: told => by
    have ih := same_iff o told
    show ((preB (traceL ds o q.1) q.2 && fits ds told o) && ((((traceL ds o q.1).length : Int) == (q.2.length : Int)) && allC told (lens ds told o))) = ((traceL ds o q.1 == q.2) && same ds told o)
    rw [← ih]
    have e : (preB (traceL ds o q.1) q.2 && (((traceL ds o q.1).length : Int) == (q.2.length : Int))) = (traceL ds o q.1 == q.2) := by
      unfold preB
      rw [Bool.eq_iff_iff, Bool.and_eq_true, beq_iff_eq, beq_iff_eq, beq_iff_eq]
      constructor
      · rintro ⟨e1, e2⟩
        rw [List.take_of_length_le (by omega)] at e1
        exact e1.symm
      · intro e
        rw [e]
        exact ⟨List.take_length, rfl⟩
    rw [← e]
    cases preB (traceL ds o q.1) q.2 <;> cases fits ds told o <;> cases (((traceL ds o q.1).length : Int) == (q.2.length : Int)) <;> rfl
end
end PL
end
section
set_option Elab.async false
set_option autoImplicit false
set_option linter.all false
set_option maxRecDepth 100000
set_option maxHeartbeats 1000000
/-! LT: traces: the program's is the law's, and it is told well. -/
namespace PL
theorem find_stays {p q : Int → Bool} {x : Int} : ∀ {l : List Int}, l.find? p = some x → q x = true → (∀ y, q y = true → p y = true) → l.find? q = some x
  | [], h, _, _ => by cases h
  | y :: l, h, hx, hq => by
    rw [List.find?_cons] at h
    rw [List.find?_cons]
    cases e : p y with
    | true =>
      rw [e] at h
      cases h
      rw [hx]
    | false =>
      rw [e] at h
      have : q y = false := by
        cases e2 : q y with
        | false => rfl
        | true => rw [hq y e2] at e; cases e
      rw [this]
      exact find_stays h hx hq
/-- a holder stays as long as it is there -/
theorem holder_stay {ds g g' : List Int} {p : Int} (hg : ∀ x, has g x = true → has g' x = true) (h : holder ds g p = -1 ∨ has g' (holder ds g p) = false) (hc : -1 ∉ chain ds p) : holder ds g' p = holder ds g p := by
  unfold holder at h ⊢
  have hq : ∀ y, (!has g' y) = true → (!has g y) = true := fun y hy => by
    cases e : has g y with
    | false => rfl
    | true => rw [hg y e] at hy; cases hy
  cases e : (chain ds p).find? fun c => !has g c with
  | none =>
    have : (chain ds p).find? (fun c => !has g' c) = none := List.find?_eq_none.mpr fun x hx z => List.find?_eq_none.mp e x hx (hq x z)
    rw [this]
  | some c =>
    rw [e] at h
    have hcm := List.mem_of_find?_eq_some e
    have : has g' c = false := by
      rcases h with h | h
      · have h : c = -1 := h
        subst h
        exact absurd hcm hc
      · exact h
    rw [find_stays e (by rw [this]; rfl) hq]
theorem holder_there {ds g : List Int} {p : Int} (h : holder ds g p ≠ -1) : has g (holder ds g p) = false := by
  unfold holder at h ⊢
  cases e : (chain ds p).find? fun c => !has g c with
  | none => rw [e] at h; exact absurd rfl h
  | some c =>
    have := List.find?_some e
    simpa using this
theorem lastI_snoc (a : List Int) (h : Int) : lastI (a ++ [h]) = h := by unfold lastI; rw [List.getLast?_append]; rfl
/-- what is true of a trace on the way -/
structure TrI (n : Nat) (ds g : List Int) (p : Int) (a : List Int) : Prop where
  ne : a ≠ []
  last : lastI a = holder ds g p
  gone : ∀ x ∈ a.dropLast, has g x = true
  nd : a.Nodup
  rng : ∀ x ∈ a, -1 ≤ x ∧ x < n
  inc : ∀ x ∈ a, x = -1 ∨ x ∈ chain ds p
theorem concat_last {a : List Int} (h : a ≠ []) : a = a.dropLast ++ [lastI a] := by
  have e := (List.dropLast_concat_getLast h).symm
  unfold lastI
  rw [List.getLast?_eq_some_getLast h]
  exact e
theorem holder_inc {n : Nat} {ds : List Int} (V : Val n ds) (g : List Int) {p : Int} (hp : p ∈ ran n) : holder ds g p = -1 ∨ holder ds g p ∈ chain ds p := by
  unfold holder
  cases e : (chain ds p).find? fun c => !has g c with
  | none => exact .inl rfl
  | some c => exact .inr (List.mem_of_find?_eq_some e)
theorem chain_no {n : Nat} {ds : List Int} (V : Val n ds) {p : Int} (hp : p ∈ ran n) : -1 ∉ chain ds p := fun h => by
  have := mem_ran.mp (chain_mem V (stops_of V) hp _ h)
  omega
section
variable {n : Nat} {ds g g' : List Int} {p : Int} {a : List Int}
theorem TrI.new (V : Val n ds) (hp : p ∈ ran n) (I : TrI n ds g p a) (hg : ∀ x, has g x = true → has g' x = true) (hr : has g' (-1) = false) (h : holder ds g' p ≠ lastI a) : holder ds g' p ∉ a := fun hm => by
  rw [concat_last I.ne] at hm
  rcases List.mem_append.mp hm with z | z
  · have := hg _ (I.gone _ z)
    by_cases e : holder ds g' p = -1
    · rw [e, hr] at this; cases this
    · rw [holder_there e] at this; cases this
  · exact h (List.mem_singleton.mp z)
theorem TrI.step (V : Val n ds) (hp : p ∈ ran n) (I : TrI n ds g p a) (hg : ∀ x, has g x = true → has g' x = true) (hr : has g' (-1) = false) : TrI n ds g' p (stepD a (holder ds g' p)) ∧ stepH a (holder ds g' p) = stepD a (holder ds g' p) := by
  have hlm : lastI a ∈ a := by
    have h : lastI a ∈ a.dropLast ++ [lastI a] := List.mem_append_right _ (List.mem_singleton.mpr rfl)
    rw [← concat_last I.ne] at h
    exact h
  unfold stepD stepH
  by_cases h : holder ds g' p = lastI a
  · rw [h]
    rw [beq_self_eq_true, has_iff.mpr hlm]
    refine ⟨⟨I.ne, h.symm, fun x hx => hg x (I.gone x hx), I.nd, I.rng, I.inc⟩, rfl⟩
  · have hn := I.new V hp hg hr h
    have e1 : (!(holder ds g' p == lastI a)) = true := by simpa using h
    rw [if_pos e1, has_false.mpr hn]
    refine ⟨⟨by simp, lastI_snoc _ _, fun x hx => ?_, ?_, fun x hx => ?_, fun x hx => ?_⟩, rfl⟩
    · rw [List.dropLast_concat] at hx
      rw [concat_last I.ne] at hx
      rcases List.mem_append.mp hx with z | z
      · exact hg x (I.gone x z)
      · rw [List.mem_singleton.mp z]
        cases q : has g' (lastI a) with
        | true => rfl
        | false =>
          rw [I.last] at q h
          exact absurd (holder_stay hg (.inr q) (chain_no V hp)) h
    · exact List.nodup_append.mpr ⟨I.nd, by simp, fun x hx y hy e => hn (by rw [← List.mem_singleton.mp hy, ← e]; exact hx)⟩
    · rcases List.mem_append.mp hx with z | z
      · exact I.rng x z
      · rw [List.mem_singleton.mp z]; exact holder_rng V (stops_of V) _ hp
    · rcases List.mem_append.mp hx with z | z
      · exact I.inc x z
      · rw [List.mem_singleton.mp z]; exact holder_inc V _ hp
end
theorem chain_head {n : Nat} {ds : List Int} (V : Val n ds) {p : Int} (hp : p ∈ ran n) : holder ds [] p = p ∧ p ∈ chain ds p := by
  obtain ⟨p1, p2⟩ := mem_ran.mp hp
  have h := (stops_of V).eq V hp
  unfold chainE at h
  have hne : (p == -1 || has [] p) = false := by
    have : (p == -1) = false := by simp; omega
    rw [this]; rfl
  rw [if_neg (by rw [hne]; decide)] at h
  obtain ⟨rest, e⟩ := chainE_pre ds _ _ _ _ h
  have e : chain ds p = p :: rest := by rw [e]; rfl
  refine ⟨?_, by rw [e]; exact List.mem_cons_self⟩
  unfold holder
  rw [e]
  rfl
theorem traceH_nil {n : Nat} {ds : List Int} (V : Val n ds) {p : Int} (hp : p ∈ ran n) : traceH ds [] p = [p] := by
  show stepH [] (holder ds [] p) = [p]
  rw [(chain_head V hp).1]
  rfl
theorem traceH_snoc (ds o : List Int) (q p : Int) : traceH ds (o ++ [q]) p = stepH (traceH ds o p) (holder ds (o ++ [q]) p) := by
  unfold traceH
  rw [List.length_append, List.length_singleton, ran_succ (o.length + 1), List.foldl_append]
  have e1 : (o ++ [q]).take (((o.length + 1 : Nat) : Int)).toNat = o ++ [q] := by rw [List.take_of_length_le]; simp
  show stepH _ (holder ds ((o ++ [q]).take (((o.length + 1 : Nat) : Int)).toNat) p) = _
  rw [e1]
  congr 1
  refine foldl_congrL _ _ fun a k hk => ?_
  obtain ⟨k1, k2⟩ := mem_ran.mp hk
  rw [List.take_append_of_le_length (by omega)]
theorem rev_ind {P : List Int → Prop} (h0 : P []) (h1 : ∀ o x, P o → P (o ++ [x])) : ∀ o, P o := fun o => by
  have : ∀ l : List Int, P l.reverse := by
    intro l
    induction l with
    | nil => exact h0
    | cons x l ih => rw [List.reverse_cons]; exact h1 _ _ ih
  have := this o.reverse
  rwa [List.reverse_reverse] at this
theorem trace_ok {n : Nat} {ds : List Int} (V : Val n ds) {p : Int} (hp : p ∈ ran n) : ∀ o : List Int, (∀ x ∈ o, x ∈ ran n) → TrI n ds o p (traceL ds o p) ∧ traceH ds o p = traceL ds o p := by
  refine rev_ind (fun _ => ?_) fun o x ih ho => ?_
  · rw [traceL_nil, traceH_nil V hp]
    obtain ⟨p1, p2⟩ := mem_ran.mp hp
    refine ⟨⟨by simp, (chain_head V hp).1.symm, fun _ h => (by cases h), by simp, fun x hx => ?_, fun x hx => ?_⟩, rfl⟩
    · rw [List.mem_singleton.mp hx]; omega
    · rw [List.mem_singleton.mp hx]; exact .inr (chain_head V hp).2
  · obtain ⟨I, e⟩ := ih fun y hy => ho y (List.mem_append_left _ hy)
    have hr : has (o ++ [x]) (-1) = false := has_false.mpr fun h => by
      have := mem_ran.mp (ho _ h)
      omega
    rw [traceL_snoc, traceH_snoc, e]
    exact I.step V hp (fun y hy => by rw [has_snoc, hy]; rfl) hr
/-- a trace is told well -/
structure Tr (n : Nat) (t : List Int) : Prop where
  nd : t.Nodup
  last : -1 ∉ t.dropLast
  rng : ∀ x ∈ t, -1 ≤ x ∧ x < n
theorem tr_gen {n : Nat} {ds : List Int} (V : Val n ds) {o : List Int} (ho : ∀ x ∈ o, x ∈ ran n) {p : Int} (hp : p ∈ ran n) : traceH ds o p = traceL ds o p ∧ Tr n (traceL ds o p) := by
  obtain ⟨I, e⟩ := trace_ok V hp o ho
  refine ⟨e, I.nd, fun h => ?_, I.rng⟩
  have := mem_ran.mp (ho _ (has_iff.mp (I.gone _ h)))
  omega
theorem trace_len {n : Nat} {ds : List Int} (V : Val n ds) {o : List Int} (ho : ∀ x ∈ o, x ∈ ran n) {p : Int} (hp : p ∈ ran n) : (traceL ds o p).length ≤ (chain ds p).length + 1 := by
  obtain ⟨I, _⟩ := trace_ok V hp o ho
  have := I.nd.length_le_of_subset (l₂ := (-1) :: chain ds p) fun x hx => by
    rcases I.inc x hx with e | e
    · rw [e]; exact List.mem_cons_self
    · exact List.mem_cons_of_mem _ e
  rwa [List.length_cons] at this
theorem nth_snoc0 {a : List Int} (h : Int) (hn : a ≠ []) : nth (a ++ [h]) 0 = nth a 0 := by
  cases a with
  | nil => exact absurd rfl hn
  | cons x a => rfl
theorem trace_head (ds : List Int) (p : Int) : ∀ o, nth (traceL ds o p) 0 = p := by
  refine rev_ind rfl fun o x ih => ?_
  rw [traceL_snoc]
  unfold stepD
  split
  · rw [nth_snoc0 _ (traceL_ne ds p o), ih]
  · exact ih
/-- a leaving one hands on just when it is the holder -/
theorem trace_more {n : Nat} {ds : List Int} (V : Val n ds) {o : List Int} {x : Int} (ho : ∀ y ∈ o ++ [x], y ∈ ran n) {p : Int} (hp : p ∈ ran n) (hx : has o x = false) :
    ((traceL ds (o ++ [x]) p).length : Int) = (traceL ds o p).length + (if (x == holder ds o p) = true then 1 else 0) := by
  obtain ⟨I, _⟩ := trace_ok V hp o fun y hy => ho y (List.mem_append_left _ hy)
  rw [traceL_snoc]
  have hx0 : x ≠ -1 := fun e => by
    have := mem_ran.mp (ho x (List.mem_append_right _ (List.mem_singleton.mpr rfl)))
    omega
  have hgm : ∀ y, has o y = true → has (o ++ [x]) y = true := fun y hy => by rw [has_snoc, hy]; rfl
  unfold stepD
  rw [I.last]
  by_cases q : x = holder ds o p
  · have hne : holder ds (o ++ [x]) p ≠ holder ds o p := fun e => by
      have h1 : holder ds (o ++ [x]) p ≠ -1 := by rw [e, ← q]; exact hx0
      have := holder_there h1
      rw [e, ← q, has_snoc, beq_self_eq_true, Bool.or_true] at this
      cases this
    rw [if_pos (by simpa using hne), if_pos (by simpa using q)]
    simp
  · have he : holder ds (o ++ [x]) p = holder ds o p := by
      refine holder_stay hgm ?_ (chain_no V hp)
      by_cases e : holder ds o p = -1
      · exact .inl e
      · refine .inr ?_
        rw [has_snoc, holder_there e, Bool.false_or]
        simpa using fun z => q z.symm
    rw [he, if_neg (by simp), if_neg (by simpa using q)]
    simp
end PL
end
section
set_option Elab.async false
set_option autoImplicit false
set_option linter.all false
set_option maxRecDepth 100000
set_option maxHeartbeats 1000000
/-! L6: what the kernel's looks say; the law's parts ahead of the weights. -/
namespace PL
abbrev LT (l : List (List Int)) : D := .lst (l.map TI)
section
variable {n : Nat} {ds : List Int}
theorem mem14 (h1 : 1 ≤ n) (h4 : n ≤ 4) : n = 1 ∨ n = 2 ∨ n = 3 ∨ n = 4 := by omega
theorem all_chkC (h1 : 1 ≤ n) (h4 : n ≤ 4) (V : DVal n ds) : chkC n ds = true := by
  have m := mem_allDs V
  rcases mem14 h1 h4 with rfl | rfl | rfl | rfl
  · exact List.all_eq_true.mp chkC1 ds m
  · exact List.all_eq_true.mp chkC2 ds m
  · exact List.all_eq_true.mp chkC3 ds m
  · exact List.all_eq_true.mp chkC4 ds m
theorem allA (h1 : 1 ≤ n) (h4 : n ≤ 4) : (((allDs n).zip (tab n)).all fun q => chkA n q.1 q.2) = true := by
  rcases mem14 h1 h4 with rfl | rfl | rfl | rfl
  · exact chkA1
  · exact chkA2
  · exact chkA3
  · exact chkA4
theorem tr_of (h1 : 1 ≤ n) (h4 : n ≤ 4) (V : DVal n ds) {o : List Int} (ho : o ∈ perms n) {p : Int} (hp : p ∈ ran n) : traceH ds o p = traceL ds o p ∧ Tr n (traceL ds o p) := tr_gen V.toVal (perms_ord h1 h4 ho).rng hp
theorem dvB_ok {l : List Int} (h : dvB n l = true) : DVal n l := by
  unfold dvB at h
  obtain ⟨h1, h2⟩ := (Bool.and_eq_true _ _).mp h
  have hl : l.length = n := by simpa using h1
  have key : ∀ (i : Nat) (d : Int), l[i]? = some d → -1 ≤ d ∧ d < n ∧ d ≠ (i : Int) := fun i d hi => by
    obtain ⟨hlt, e⟩ := List.getElem?_eq_some_iff.mp hi
    have hz : (d, (i : Int)) ∈ l.zip (ran n) := by
      refine List.mem_iff_getElem.mpr ⟨i, by rw [List.length_zip, ran_length]; omega, ?_⟩
      rw [List.getElem_zip, e]
      congr 1
      unfold ran
      simp
    have z := List.all_eq_true.mp h2 _ hz
    simp only [Bool.and_eq_true, decide_eq_true_eq, Bool.not_eq_true', beq_eq_false_iff_ne] at z
    exact ⟨z.1.1, z.1.2, z.2⟩
  exact ⟨⟨hl, fun d hd => by
    obtain ⟨i, hi⟩ := List.getElem?_of_mem hd
    have := key i d hi
    exact ⟨this.1, this.2.1⟩⟩, fun i hi => (key i _ hi).2.2 rfl⟩
theorem ln_all (h1 : 1 ≤ n) (h4 : n ≤ 4) (V : DVal n ds) {o : List Int} (ho : o ∈ perms n) : ln ds o = wn ds o ∧ (∀ k ∈ ran n, ∃ x, getI (dctD ds o) k = some (.int x) ∧ (intOf (getI (dctD ds o) k)).getD 0 = x) ∧ DVal n (wn ds o) := by
  have z := List.all_eq_true.mp (all_chkC h1 h4 V) o ho
  simp only [Bool.and_eq_true, beq_iff_eq, List.all_eq_true] at z
  refine ⟨z.1.1, fun k hk => ?_, dvB_ok z.2⟩
  have y := z.1.2 k hk
  cases q : getI (dctD ds o) k with
  | none => rw [q] at y; cases y
  | some d =>
    rw [q] at y
    cases d with
    | int x => exact ⟨x, rfl, rfl⟩
    | _ => cases y
theorem ln_of (h1 : 1 ≤ n) (h4 : n ≤ 4) (V : DVal n ds) {o : List Int} (ho : o ∈ perms n) : ln ds o = wn ds o ∧ (∀ k ∈ ran n, ∃ x, getI (dctD ds o) k = some (.int x) ∧ (intOf (getI (dctD ds o) k)).getD 0 = x) ∧ (wn ds o).length = n ∧ ∀ x ∈ wn ds o, -1 ≤ x ∧ x ≤ 3 := by
  obtain ⟨z1, z2, W⟩ := ln_all h1 h4 V ho
  exact ⟨z1, z2, W.len, fun x hx => by have := W.rng x hx; omega⟩
/-- the best -/
theorem best_of (h1 : 1 ≤ n) (h4 : n ≤ 4) (V : DVal n ds) : ∃ (b : Int) (row : List Int), Fv F_most_row [TI ds] (.tup [.int b, TI row]) ∧ row ∈ perms n ∧ handed ds row = b ∧ ∀ o ∈ perms n, handed ds o ≤ b := by
  obtain ⟨i, hi, e⟩ := List.mem_iff_getElem.mp (mem_allDs V)
  have hlen : (allDs n).length = (tab n).length := by
    have := congrArg List.length (mrow h1 h4 ⟨[], 0, 0, 0⟩)
    simpa using this
  have hz : (ds, (tab n)[i]'(by omega)) ∈ (allDs n).zip (tab n) := by
    refine List.mem_iff_getElem.mpr ⟨i, by rw [List.length_zip]; omega, ?_⟩
    rw [List.getElem_zip, e]
  have z := List.all_eq_true.mp (allA h1 h4) _ hz
  generalize hq : (tab n)[i]'(by omega) = q at z
  unfold chkA at z
  simp only [Bool.and_eq_true, beq_iff_eq, List.all_eq_true, decide_eq_true_eq, List.elem_eq_mem] at z
  refine ⟨q.1, q.2, fun r => ?_, z.1.1, z.1.2, z.2⟩
  have m := congrArg (fun l => l[i]?) (mrow h1 h4 r)
  simp only [List.getElem?_map] at m
  rw [List.getElem?_eq_getElem hi, List.getElem?_eq_getElem (by omega), e, hq] at m
  exact Option.some.inj m
/-! ### shapes -/
theorem code_inj : ∀ {a b : List Int}, a.length = b.length → (∀ x ∈ a, -1 ≤ x ∧ x ≤ 3) → (∀ x ∈ b, -1 ≤ x ∧ x ≤ 3) → code a = code b → a = b
  | [], [], _, _, _, _ => rfl
  | [], _ :: _, h, _, _, _ => by cases h
  | _ :: _, [], h, _, _, _ => by cases h
  | x :: a, y :: b, h, ha, hb, e => by
    have e : (x + 1).toNat + 5 * code a = (y + 1).toNat + 5 * code b := e
    have h1 := ha x List.mem_cons_self
    have h2 := hb y List.mem_cons_self
    have e1 : (x + 1).toNat = (y + 1).toNat := by omega
    have e2 : code a = code b := by omega
    rw [code_inj (by simpa using h) (fun z hz => ha z (List.mem_cons_of_mem _ hz)) (fun z hz => hb z (List.mem_cons_of_mem _ hz)) e2, show x = y by omega]
theorem elN_iff {x : Nat} : ∀ {l : List Nat}, elN x l = true ↔ x ∈ l
  | [] => by simp [elN]
  | y :: l => by
    unfold elN
    rw [Bool.or_eq_true, elN_iff, List.mem_cons, Nat.beq_eq]
theorem pairs (h1 : 1 ≤ n) (h4 : n ≤ 4) {a b : List Int} (ha : a ∈ allDs n) (hb : b ∈ allDs n) : (Nat.beq (code (shp n a)) (code (shp n b)) == elN (code b) ((perms n).map fun o => code (wn a o))) = true := by
  have go : ∀ (c : List (Nat × Nat)) (t : List (Nat × Nat × List Nat)), ((allDs n).map (rowD n) == t) = true → chkE c t = true → (Nat.beq (code (shp n a)) (code (shp n b)) == elN (code b) ((perms n).map fun o => code (wn a o))) = true := fun c t e h => by
    have e := eq_of_beq e
    subst e
    exact beq_iff_eq.mpr (pairs_of h (List.mem_map_of_mem (f := rowD n) ha) (List.mem_map_of_mem (f := rowD n) hb))
  rcases mem14 h1 h4 with rfl | rfl | rfl | rfl
  · exact go _ _ tabD1_eq chkE1
  · exact go _ _ tabD2_eq chkE2
  · exact go _ _ tabD3_eq chkE3
  · exact go _ _ tabD4_eq chkE4
theorem minT_mem : ∀ (m : List Int) (l : List (List Int)), minT m l ∈ m :: l
  | m, [] => List.mem_cons_self
  | m, x :: l => by
    unfold minT
    split
    · exact List.mem_cons_of_mem _ (minT_mem x l)
    · rcases List.mem_cons.mp (minT_mem m l) with h | h
      · rw [h]; exact List.mem_cons_self
      · exact List.mem_cons_of_mem _ (List.mem_cons_of_mem _ h)
theorem shp_mem (h1 : 1 ≤ n) (h4 : n ≤ 4) : shp n ds ∈ (perms n).map (wn ds) := by
  have hp := (perms_len h1 h4).2
  unfold shp minL
  cases q : (perms n).map (wn ds) with
  | nil => simp at q; exact absurd q hp
  | cons x xs => exact minT_mem x xs
theorem alike_iff (h1 : 1 ≤ n) (h4 : n ≤ 4) {ot : List Int} (V : DVal n ds) (W : DVal n ot) : (shp n ds == shp n ot) = ((perms n).map (wn ds)).any fun x => x == ot := by
  have z := eq_of_beq (pairs h1 h4 (mem_allDs V) (mem_allDs W))
  have ok : ∀ {e : List Int}, DVal n e → ∀ x ∈ (perms n).map (wn e), x.length = n ∧ ∀ y ∈ x, -1 ≤ y ∧ y ≤ 3 := fun E x hx => by
    obtain ⟨o, ho, rfl⟩ := List.mem_map.mp hx
    obtain ⟨_, _, l1, l2⟩ := ln_of h1 h4 E ho
    exact ⟨l1, l2⟩
  have s1 := ok V _ (shp_mem h1 h4)
  have s2 := ok W _ (shp_mem h1 h4)
  have lhs : (shp n ds == shp n ot) = Nat.beq (code (shp n ds)) (code (shp n ot)) := by
    rw [Bool.eq_iff_iff, beq_iff_eq, Nat.beq_eq]
    exact ⟨fun e => by rw [e], fun e => code_inj (by rw [s1.1, s2.1]) s1.2 s2.2 e⟩
  have rhs : (((perms n).map (wn ds)).any fun x => x == ot) = elN (code ot) ((perms n).map fun o => code (wn ds o)) := by
    rw [Bool.eq_iff_iff, elN_iff, List.any_eq_true]
    constructor
    · rintro ⟨x, hx, e⟩
      obtain ⟨o, ho, rfl⟩ := List.mem_map.mp hx
      exact List.mem_map.mpr ⟨o, ho, by rw [eq_of_beq e]⟩
    · intro h
      obtain ⟨o, ho, e⟩ := List.mem_map.mp h
      have k := ok V _ (List.mem_map_of_mem ho)
      refine ⟨_, List.mem_map_of_mem ho, beq_iff_eq.mpr (code_inj (by rw [k.1, W.len]) k.2 (fun y hy => ?_) e)⟩
      have := W.rng y hy
      omega
  rw [lhs, rhs]
  exact z
end
end PL
end
section
set_option autoImplicit false
set_option linter.all false
/-! LP: printed by gen_lp.py: the statements of the law, by name -/
namespace PL
abbrev pS0 : Sm := (sSet 2 (eBin oAdd (eC (.int 1)) (eCall F_law_taken (aCons (eVar 1) (aCons (eC (.int 4)) aNil)))))
abbrev pS1 : Sm := (sPar [3, 4, 5] (aCons (eCall F_law_deputies (aCons (eVar 1) (aCons (eVar 2) aNil))) (aCons (eCall F_law_deputies (aCons (eVar 1) (aCons (eVar 2) aNil))) (aCons (eCall (F_law_orders 6) (aCons (eUn oListRg (eVar 2)) aNil)) aNil))))
abbrev pS2 : Sm := (sSet 6 (eComp [7] (wSeq (eVar 5)) (gVar 7) tYes (eUn oSum (eComp [8] (wRange (eVar 2)) (gVar 8) tYes (eBin oSub (eUn oLen (eCall F_law_handed (aCons (eVar 3) (aCons (eVar 7) (aCons (eVar 8) aNil))))) (eC (.int 1)))))))
abbrev pS3 : Sm := (sPar [9, 10] (aCons (eUn oMax (eVar 6)) (aCons (eCall F_most_handings (aCons (eVar 3) aNil)) aNil)))
abbrev pS4 : Sm := (sIf (tOr (tNot (tB (eCall (fIs .tTup) (aCons (eVar 10) aNil)))) (tOr (tB (eBin oNe (eUn oLen (eVar 10)) (eC (.int 2)))) (tOr (tB (eBin oNe (eBin oIx (eVar 10) (eC (.int 0))) (eVar 9))) (tOr (tB (eBin oNotInD (eBin oIx (eVar 10) (eC (.int 1))) (eVar 5))) (tB (eBin oNe (eBin oIx (eVar 6) (eBin oIndex (eVar 5) (eBin oIx (eVar 10) (eC (.int 1))))) (eVar 9))))))) (sSeq (sRet (eC (.bl false))) sNil) sNil)
abbrev pS5 : Sm := (sFor (gVar 11) (wSeq (eBin oCatL (eLst (aCons (eVar 10) (aCons (eUn oList (eVar 10)) (aCons (eTup (aCons (eBin oAdd (eVar 9) (eC (.int 1))) (aCons (eBin oIx (eVar 10) (eC (.int 1))) aNil))) (aCons (eTup (aCons (eVar 9) (aCons (eUn oList (eBin oIx (eVar 10) (eC (.int 1)))) aNil))) (aCons (eTup (aCons (eVar 9) (aCons (eTup aNil) aNil))) (aCons (eC .non) (aCons (eC (.int 3)) aNil)))))))) (eComp [7] (wSeq (eVar 5)) (gVar 7) tYes (eTup (aCons (eVar 9) (aCons (eVar 7) aNil)))))) (sSeq (sSet 12 (eAnd (eCall (fIs .tTup) (aCons (eVar 11) aNil)) (eAnd (eBin oEq (eUn oLen (eVar 11)) (eC (.int 2))) (eAnd (eBin oEq (eBin oIx (eVar 11) (eC (.int 0))) (eVar 9)) (eCall (fIs .tTup) (aCons (eBin oIx (eVar 11) (eC (.int 1))) aNil)))))) (sSeq (sSet 12 (eAnd (eVar 12) (eAnd (eBin oInD (eBin oIx (eVar 11) (eC (.int 1))) (eVar 5)) (eBin oEq (eBin oIx (eVar 6) (eBin oIndex (eVar 5) (eBin oIx (eVar 11) (eC (.int 1))))) (eVar 9))))) (sSeq (sIf (tNot (tB (eCall (F_law_alike 6) (aCons (eCall F_shows_most_handings (aCons (eVar 3) (aCons (eVar 11) aNil))) (aCons (eVar 12) aNil))))) (sSeq (sRet (eC (.bl false))) sNil) sNil) sNil))))
abbrev pS6 : Sm := (sSet 13 (eLst aNil))
abbrev pS7 : Sm := (sFor (gVar 14) (wSeq (eVar 5)) (sSeq (sSet 7 eDictI) (sSeq (sFor (gVar 8) (wRange (eVar 2)) (sSeq (sPutI 7 (eBin oIx (eVar 14) (eVar 8)) (eIf (tB (eBin oNe (eBin oIx (eVar 3) (eVar 8)) (eUn oNeg (eC (.int 1))))) (eBin oIx (eVar 14) (eBin oIx (eVar 3) (eVar 8))) (eUn oNeg (eC (.int 1))))) sNil)) (sSeq (sApp 13 (eUn oTuple (eComp [8] (wRange (eVar 2)) (gVar 8) tYes (eBin oGetI (eVar 7) (eVar 8))))) sNil))))
abbrev pS8 : Sm := (sIf (tB (eBin oEq (eCall F_law_taken (aCons (eVar 1) (aCons (eC (.int 2)) aNil))) (eC (.int 0)))) (sSeq (sSet 4 (eCall F_law_pick (aCons (eVar 1) (aCons (eVar 13) aNil)))) sNil) sNil)
abbrev pS9 : Sm := (sIf (tOr (tNot (tB (eCall (F_law_alike 6) (aCons (eCall F_shape (aCons (eVar 3) aNil)) (aCons (eUn oMinT (eVar 13)) aNil))))) (tNot (tB (eCall (F_law_alike 6) (aCons (eCall F_own_names (aCons (eVar 3) aNil)) (aCons (eBin oCount (eVar 13) (eVar 3)) aNil)))))) (sSeq (sRet (eC (.bl false))) sNil) sNil)
abbrev pS10 : Sm := (sIf (tNot (tB (eCall (F_law_alike 6) (aCons (eCall F_alike (aCons (eVar 3) (aCons (eVar 4) aNil))) (aCons (eBin oInD (eVar 4) (eVar 13)) aNil))))) (sSeq (sRet (eC (.bl false))) sNil) sNil)
abbrev pS11 : Sm := (sPar [15, 16, 17, 18] (aCons (eUn oTuple (eComp [8] (wRange (eVar 2)) (gVar 8) tYes (eBin oAdd (eC (.int 1)) (eCall F_law_taken (aCons (eVar 1) (aCons (eC (.int 9)) aNil)))))) (aCons (eCall F_law_taken (aCons (eVar 1) (aCons (eVar 2) aNil))) (aCons (eLst aNil) (aCons (eTup (aCons (eC (.int 0)) (aCons (eC (.int 1)) aNil))) aNil)))))
abbrev pS12 : Sm := (sSet 14 (eCall F_law_order (aCons (eVar 1) (aCons (eVar 2) aNil))))
abbrev pS13 : Sm := (sFor (gVar 8) (wRange (eVar 2)) (sSeq (sIf (tB (eBin oEq (eCall F_law_taken (aCons (eVar 1) (aCons (eC (.int 2)) aNil))) (eC (.int 0)))) (sSeq (sApp 17 (eTup (aCons (eVar 8) (aCons (eUn oTuple (eCall F_law_handed (aCons (eVar 3) (aCons (eVar 14) (aCons (eVar 8) aNil))))) aNil)))) sNil) sNil) sNil))
abbrev pS14 : Sm := (sSet 19 (eBin oRepL (eLst (aCons (eTup (aCons (eC (.int 0)) (aCons (eC (.int 1)) aNil))) aNil)) (eBin oAdd (eUn oLen (eCall F_law_chain (aCons (eVar 3) (aCons (eVar 16) aNil)))) (eC (.int 1)))))
abbrev pS15 : Sm := (sFor (gVar 7) (wSeq (eVar 5)) (sSeq (sPar [20, 21] (aCons (eTup (aCons (eC (.int 1)) (aCons (eC (.int 1)) aNil))) (aCons (eUn oSum (eVar 15)) aNil))) (sSeq (sFor (gVar 8) (wSeq (eVar 7)) (sSeq (sPar [20, 21] (aCons (eCall F_law_by (aCons (eVar 20) (aCons (eCall F_law_ratio (aCons (eBin oIx (eVar 15) (eVar 8)) (aCons (eVar 21) aNil))) aNil))) (aCons (eBin oSub (eVar 21) (eBin oIx (eVar 15) (eVar 8))) aNil))) sNil)) (sSeq (sIf (tB (eBin oEq (eComp [8, 23] (wSeq (eVar 17)) (gTup [(gVar 8), (gVar 23)]) (tB (eBin oNe (eUn oTuple (eCall F_law_handed (aCons (eVar 3) (aCons (eVar 7) (aCons (eVar 8) aNil))))) (eVar 23))) (eVar 8)) (eLst aNil))) (sSeq (sSet 18 (eCall F_law_plus (aCons (eVar 18) (aCons (eVar 20) aNil)))) sNil) sNil) (sSeq (sSet 22 (eBin oSub (eUn oLen (eCall F_law_handed (aCons (eVar 3) (aCons (eVar 7) (aCons (eVar 16) aNil))))) (eC (.int 1)))) (sSeq (sSetIx 19 (eVar 22) (eCall F_law_plus (aCons (eBin oIx (eVar 19) (eVar 22)) (aCons (eVar 20) aNil)))) sNil))))))
abbrev pS16 : Sm := (sRet (eAnd (eCall (F_law_alike 6) (aCons (eCall F_told_chance (aCons (eVar 3) (aCons (eVar 15) (aCons (eUn oTuple (eVar 17)) aNil)))) (aCons (eVar 18) aNil))) (eCall (F_law_alike 6) (aCons (eCall F_handing_chances_by (aCons (eVar 3) (aCons (eVar 15) (aCons (eVar 16) aNil)))) (aCons (eUn oTuple (eVar 19)) aNil)))))
abbrev w5 : Ar := (wSeq (eBin oCatL (eLst (aCons (eVar 10) (aCons (eUn oList (eVar 10)) (aCons (eTup (aCons (eBin oAdd (eVar 9) (eC (.int 1))) (aCons (eBin oIx (eVar 10) (eC (.int 1))) aNil))) (aCons (eTup (aCons (eVar 9) (aCons (eUn oList (eBin oIx (eVar 10) (eC (.int 1)))) aNil))) (aCons (eTup (aCons (eVar 9) (aCons (eTup aNil) aNil))) (aCons (eC .non) (aCons (eC (.int 3)) aNil)))))))) (eComp [7] (wSeq (eVar 5)) (gVar 7) tYes (eTup (aCons (eVar 9) (aCons (eVar 7) aNil))))))
abbrev q5 : Sm := (sSeq (sSet 12 (eAnd (eCall (fIs .tTup) (aCons (eVar 11) aNil)) (eAnd (eBin oEq (eUn oLen (eVar 11)) (eC (.int 2))) (eAnd (eBin oEq (eBin oIx (eVar 11) (eC (.int 0))) (eVar 9)) (eCall (fIs .tTup) (aCons (eBin oIx (eVar 11) (eC (.int 1))) aNil)))))) (sSeq (sSet 12 (eAnd (eVar 12) (eAnd (eBin oInD (eBin oIx (eVar 11) (eC (.int 1))) (eVar 5)) (eBin oEq (eBin oIx (eVar 6) (eBin oIndex (eVar 5) (eBin oIx (eVar 11) (eC (.int 1))))) (eVar 9))))) (sSeq (sIf (tNot (tB (eCall (F_law_alike 6) (aCons (eCall F_shows_most_handings (aCons (eVar 3) (aCons (eVar 11) aNil))) (aCons (eVar 12) aNil))))) (sSeq (sRet (eC (.bl false))) sNil) sNil) sNil)))
abbrev q7 : Sm := (sSeq (sSet 7 eDictI) (sSeq (sFor (gVar 8) (wRange (eVar 2)) (sSeq (sPutI 7 (eBin oIx (eVar 14) (eVar 8)) (eIf (tB (eBin oNe (eBin oIx (eVar 3) (eVar 8)) (eUn oNeg (eC (.int 1))))) (eBin oIx (eVar 14) (eBin oIx (eVar 3) (eVar 8))) (eUn oNeg (eC (.int 1))))) sNil)) (sSeq (sApp 13 (eUn oTuple (eComp [8] (wRange (eVar 2)) (gVar 8) tYes (eBin oGetI (eVar 7) (eVar 8))))) sNil)))
abbrev q13 : Sm := (sSeq (sIf (tB (eBin oEq (eCall F_law_taken (aCons (eVar 1) (aCons (eC (.int 2)) aNil))) (eC (.int 0)))) (sSeq (sApp 17 (eTup (aCons (eVar 8) (aCons (eUn oTuple (eCall F_law_handed (aCons (eVar 3) (aCons (eVar 14) (aCons (eVar 8) aNil))))) aNil)))) sNil) sNil) sNil)
abbrev q15 : Sm := (sSeq (sPar [20, 21] (aCons (eTup (aCons (eC (.int 1)) (aCons (eC (.int 1)) aNil))) (aCons (eUn oSum (eVar 15)) aNil))) (sSeq (sFor (gVar 8) (wSeq (eVar 7)) (sSeq (sPar [20, 21] (aCons (eCall F_law_by (aCons (eVar 20) (aCons (eCall F_law_ratio (aCons (eBin oIx (eVar 15) (eVar 8)) (aCons (eVar 21) aNil))) aNil))) (aCons (eBin oSub (eVar 21) (eBin oIx (eVar 15) (eVar 8))) aNil))) sNil)) (sSeq (sIf (tB (eBin oEq (eComp [8, 23] (wSeq (eVar 17)) (gTup [(gVar 8), (gVar 23)]) (tB (eBin oNe (eUn oTuple (eCall F_law_handed (aCons (eVar 3) (aCons (eVar 7) (aCons (eVar 8) aNil))))) (eVar 23))) (eVar 8)) (eLst aNil))) (sSeq (sSet 18 (eCall F_law_plus (aCons (eVar 18) (aCons (eVar 20) aNil)))) sNil) sNil) (sSeq (sSet 22 (eBin oSub (eUn oLen (eCall F_law_handed (aCons (eVar 3) (aCons (eVar 7) (aCons (eVar 16) aNil))))) (eC (.int 1)))) (sSeq (sSetIx 19 (eVar 22) (eCall F_law_plus (aCons (eBin oIx (eVar 19) (eVar 22)) (aCons (eVar 20) aNil)))) sNil)))))
abbrev q5_0 : Sm := (sSet 12 (eAnd (eCall (fIs .tTup) (aCons (eVar 11) aNil)) (eAnd (eBin oEq (eUn oLen (eVar 11)) (eC (.int 2))) (eAnd (eBin oEq (eBin oIx (eVar 11) (eC (.int 0))) (eVar 9)) (eCall (fIs .tTup) (aCons (eBin oIx (eVar 11) (eC (.int 1))) aNil))))))
abbrev q5_1 : Sm := (sSet 12 (eAnd (eVar 12) (eAnd (eBin oInD (eBin oIx (eVar 11) (eC (.int 1))) (eVar 5)) (eBin oEq (eBin oIx (eVar 6) (eBin oIndex (eVar 5) (eBin oIx (eVar 11) (eC (.int 1))))) (eVar 9)))))
abbrev q5_2 : Sm := (sIf (tNot (tB (eCall (F_law_alike 6) (aCons (eCall F_shows_most_handings (aCons (eVar 3) (aCons (eVar 11) aNil))) (aCons (eVar 12) aNil))))) (sSeq (sRet (eC (.bl false))) sNil) sNil)
abbrev q7_0 : Sm := (sSet 7 eDictI)
abbrev q7_1 : Sm := (sFor (gVar 8) (wRange (eVar 2)) (sSeq (sPutI 7 (eBin oIx (eVar 14) (eVar 8)) (eIf (tB (eBin oNe (eBin oIx (eVar 3) (eVar 8)) (eUn oNeg (eC (.int 1))))) (eBin oIx (eVar 14) (eBin oIx (eVar 3) (eVar 8))) (eUn oNeg (eC (.int 1))))) sNil))
abbrev q7_1b : Sm := (sSeq (sPutI 7 (eBin oIx (eVar 14) (eVar 8)) (eIf (tB (eBin oNe (eBin oIx (eVar 3) (eVar 8)) (eUn oNeg (eC (.int 1))))) (eBin oIx (eVar 14) (eBin oIx (eVar 3) (eVar 8))) (eUn oNeg (eC (.int 1))))) sNil)
abbrev q7_2 : Sm := (sApp 13 (eUn oTuple (eComp [8] (wRange (eVar 2)) (gVar 8) tYes (eBin oGetI (eVar 7) (eVar 8)))))
abbrev q13_0 : Sm := (sIf (tB (eBin oEq (eCall F_law_taken (aCons (eVar 1) (aCons (eC (.int 2)) aNil))) (eC (.int 0)))) (sSeq (sApp 17 (eTup (aCons (eVar 8) (aCons (eUn oTuple (eCall F_law_handed (aCons (eVar 3) (aCons (eVar 14) (aCons (eVar 8) aNil))))) aNil)))) sNil) sNil)
abbrev q15_0 : Sm := (sPar [20, 21] (aCons (eTup (aCons (eC (.int 1)) (aCons (eC (.int 1)) aNil))) (aCons (eUn oSum (eVar 15)) aNil)))
abbrev q15_1 : Sm := (sFor (gVar 8) (wSeq (eVar 7)) (sSeq (sPar [20, 21] (aCons (eCall F_law_by (aCons (eVar 20) (aCons (eCall F_law_ratio (aCons (eBin oIx (eVar 15) (eVar 8)) (aCons (eVar 21) aNil))) aNil))) (aCons (eBin oSub (eVar 21) (eBin oIx (eVar 15) (eVar 8))) aNil))) sNil))
abbrev q15_1b : Sm := (sSeq (sPar [20, 21] (aCons (eCall F_law_by (aCons (eVar 20) (aCons (eCall F_law_ratio (aCons (eBin oIx (eVar 15) (eVar 8)) (aCons (eVar 21) aNil))) aNil))) (aCons (eBin oSub (eVar 21) (eBin oIx (eVar 15) (eVar 8))) aNil))) sNil)
abbrev q15_2 : Sm := (sIf (tB (eBin oEq (eComp [8, 23] (wSeq (eVar 17)) (gTup [(gVar 8), (gVar 23)]) (tB (eBin oNe (eUn oTuple (eCall F_law_handed (aCons (eVar 3) (aCons (eVar 7) (aCons (eVar 8) aNil))))) (eVar 23))) (eVar 8)) (eLst aNil))) (sSeq (sSet 18 (eCall F_law_plus (aCons (eVar 18) (aCons (eVar 20) aNil)))) sNil) sNil)
abbrev q15_3 : Sm := (sSet 22 (eBin oSub (eUn oLen (eCall F_law_handed (aCons (eVar 3) (aCons (eVar 7) (aCons (eVar 16) aNil))))) (eC (.int 1))))
abbrev q15_4 : Sm := (sSetIx 19 (eVar 22) (eCall F_law_plus (aCons (eBin oIx (eVar 19) (eVar 22)) (aCons (eVar 20) aNil))))
theorem law_seq : b_law = sSeq pS0 (sSeq pS1 (sSeq pS2 (sSeq pS3 (sSeq pS4 (sSeq pS5 (sSeq pS6 (sSeq pS7 (sSeq pS8 (sSeq pS9 (sSeq pS10 (sSeq pS11 (sSeq pS12 (sSeq pS13 (sSeq pS14 (sSeq pS15 (sSeq pS16 sNil)))))))))))))))) := rfl
end PL
end
section
set_option Elab.async false
set_option autoImplicit false
set_option linter.all false
set_option maxRecDepth 100000
set_option maxHeartbeats 1000000
/-! L7: the law ahead of the weights: pieces. -/
namespace PL
/-! ### lists of tuples -/
theorem ok_TI (k : Nat) (l : List Int) : D.ok (k + 1) (TI l) = true := ok_ints k l
theorem ok_LT (k : Nat) (l : List (List Int)) : (l.map TI).all (D.ok (k + 1)) = true := by
  induction l with
  | nil => rfl
  | cons x l ih => rw [List.map_cons, List.all_cons, ih, ok_TI]; rfl
theorem any_LT (l : List (List Int)) (x : List Int) : ((l.map TI).any fun y => y.beq (TI x)) = l.any fun y => y == x := by
  rw [List.any_map]
  congr 1
  funext y
  exact beq_TI y x
theorem oInD_LT (l : List (List Int)) (x : List Int) : oInD (TI x) (LT l) = some (.bl (l.any fun y => y == x)) := by
  show (if (D.ok 7 (TI x) && (l.map TI).all (D.ok 7)) = true then some (D.bl ((l.map TI).any fun y => y.beq (TI x))) else none) = _
  rw [ok_TI, ok_LT, any_LT]; rfl
theorem oNotInD_LT (l : List (List Int)) (x : List Int) : oNotInD (TI x) (LT l) = some (.bl (!l.any fun y => y == x)) := by
  show (if (D.ok 7 (TI x) && (l.map TI).all (D.ok 7)) = true then some (D.bl (!(l.map TI).any fun y => y.beq (TI x))) else none) = _
  rw [ok_TI, ok_LT, any_LT]; rfl
theorem oCount_LT (l : List (List Int)) (x : List Int) : oCount (LT l) (TI x) = some (.int (l.countP fun y => y == x : Nat)) := by
  show (if (D.ok 7 (TI x) && (l.map TI).all (D.ok 7)) = true then some (D.int (((l.map TI).countP fun y => y.beq (TI x) : Nat) : Int)) else none) = _
  rw [ok_TI, ok_LT, List.countP_map]
  have e : (fun y => y.beq (TI x)) ∘ TI = fun y => y == x := funext fun y => beq_TI y x
  rw [e]; rfl
theorem findIdx_map {α β : Type} (f : α → β) (p : β → Bool) : ∀ l : List α, (l.map f).findIdx? p = l.findIdx? (p ∘ f)
  | [] => rfl
  | x :: l => by simp [List.findIdx?_cons, findIdx_map f p l]
/-- sums[every.index(x)] -/
theorem ix_sums {s : Sl} {e : Ex} {i j : Nat} {l : List (List Int)} {x : List Int} {f : List Int → Int} (he : Ev e s (TI x)) (hx : x ∈ l) (hi : s[i]? = some (some (LI (l.map f))) := by rfl) (hj : s[j]? = some (some (LT l)) := by rfl) :
    Ev (eBin oIx (eVar i) (eBin oIndex (eVar j) e)) s (.int (f x)) := by
  obtain ⟨m, hm⟩ : ∃ m, l.findIdx? (fun y => y == x) = some m := by
    cases q : l.findIdx? (fun y => y == x) with
    | none => exact absurd (List.findIdx?_eq_none_iff.mp q x hx) (by simp)
    | some m => exact ⟨m, rfl⟩
  obtain ⟨h1, h2, _⟩ := List.findIdx?_eq_some_iff_getElem.mp hm
  have hxm : l[m] = x := eq_of_beq h2
  have e1 : oIndex (LT l) (TI x) = some (.int (m : Nat)) := by
    show (if (D.ok 7 (TI x) && (l.map TI).all (D.ok 7)) = true then (match (l.map TI).findIdx? fun y => y.beq (TI x) with | some j => some (D.int (j : Nat)) | none => none) else none) = _
    rw [ok_TI, ok_LT, findIdx_map]
    have e : (fun y => y.beq (TI x)) ∘ TI = fun y => y == x := funext fun y => beq_TI y x
    rw [e, hm]; rfl
  have e2 : nth (l.map f) (m : Int) = f x := by
    unfold nth
    rw [List.getD_eq_getElem?_getD, List.getElem?_map, Int.toNat_natCast, List.getElem?_eq_getElem h1, hxm]
    rfl
  have z := ev_bin (o := oIx) (ev_var (i := i) hi) (ev_bin (o := oIndex) (ev_var (i := j) hj) he e1) (oIx_LI (by omega) (by rw [List.length_map]; omega))
  rw [e2] at z
  exact z
/-! ### alike -/
def plainD : Nat → D → Bool
  | 0, _ => false
  | _ + 1, .bl _ => true
  | _ + 1, .int _ => true
  | k + 1, .tup ds => decide (ds.length ≤ 1000) && ds.all (plainD k)
  | _, _ => false
theorem alike_self : ∀ (k : Nat) (d : D), plainD k d = true → Fv (F_law_alike k) [d, d] (.bl true)
  | 0, _, h => by cases h
  | k + 1, .bl b, _ => by
    have t1 : Tv (tB (eCall fIsTL (aCons (eVar 1) aNil))) [some (.bl b), some (.bl b), none] false := tv_b (ev_call (av_cons (ev_var rfl) av_nil) fun _ => rfl)
    have t2 : Tv (tOr (tB (eIsN (eVar 1))) (tB (eCall (fIs .tStr) (aCons (eVar 1) aNil)))) [some (.bl b), some (.bl b), none] false := tv_or (k := false) (l := false) (tv_b (ev_isN (x := .bl b) (ev_var rfl))) fun _ => tv_b (ev_call (av_cons (ev_var rfl) av_nil) fun _ => rfl)
    have e : Ev (eAnd (eCall (fIs .tInt) (aCons (eVar 0) aNil)) (eAnd (eBin oEq (eCall (fIs .tBool) (aCons (eVar 0) aNil)) (eCall (fIs .tBool) (aCons (eVar 1) aNil))) (eBin oEq (eVar 0) (eVar 1)))) [some (.bl b), some (.bl b), none] (.bl true) :=
      ev_and (k := true) (l := true) (ev_call (av_cons (ev_var rfl) av_nil) fun _ => rfl) fun _ => ev_and (k := true) (l := true) (ev_bin (x := .bl true) (y := .bl true) (ev_call (av_cons (ev_var rfl) av_nil) fun _ => rfl) (ev_call (av_cons (ev_var rfl) av_nil) fun _ => rfl) rfl) fun _ => ev_bin (x := .bl b) (y := .bl b) (ev_var rfl) (ev_var rfl) (by cases b <;> rfl)
    exact fv_rt (rt_seq (nx_if t1 (fun q => by cases q) fun _ => nx_nil) (rt_seq (nx_if t2 (fun q => by cases q) fun _ => nx_nil) (rt_seq1 (rt_ret e))))
  | k + 1, .int b, _ => by
    have t1 : Tv (tB (eCall fIsTL (aCons (eVar 1) aNil))) [some (.int b), some (.int b), none] false := tv_b (ev_call (av_cons (ev_var rfl) av_nil) fun _ => rfl)
    have t2 : Tv (tOr (tB (eIsN (eVar 1))) (tB (eCall (fIs .tStr) (aCons (eVar 1) aNil)))) [some (.int b), some (.int b), none] false := tv_or (k := false) (l := false) (tv_b (ev_isN (x := .int b) (ev_var rfl))) fun _ => tv_b (ev_call (av_cons (ev_var rfl) av_nil) fun _ => rfl)
    have eq : oEq (.int b) (.int b) = some (.bl true) := by rw [oEq_int, beq_self_eq_true]
    have e : Ev (eAnd (eCall (fIs .tInt) (aCons (eVar 0) aNil)) (eAnd (eBin oEq (eCall (fIs .tBool) (aCons (eVar 0) aNil)) (eCall (fIs .tBool) (aCons (eVar 1) aNil))) (eBin oEq (eVar 0) (eVar 1)))) [some (.int b), some (.int b), none] (.bl true) :=
      ev_and (k := true) (l := true) (ev_call (av_cons (ev_var rfl) av_nil) fun _ => rfl) fun _ => ev_and (k := true) (l := true) (ev_bin (x := .bl false) (y := .bl false) (ev_call (av_cons (ev_var rfl) av_nil) fun _ => rfl) (ev_call (av_cons (ev_var rfl) av_nil) fun _ => rfl) rfl) fun _ => ev_bin (x := .int b) (y := .int b) (ev_var rfl) (ev_var rfl) eq
    exact fv_rt (rt_seq (nx_if t1 (fun q => by cases q) fun _ => nx_nil) (rt_seq (nx_if t2 (fun q => by cases q) fun _ => nx_nil) (rt_seq1 (rt_ret e))))
  | k + 1, .tup ds, h => by
    obtain ⟨hl, ha⟩ := (Bool.and_eq_true _ _).mp (show (decide (ds.length ≤ 1000) && ds.all (plainD k)) = true from h)
    have hl : ds.length ≤ 1000 := by simpa using hl
    have t1 : Tv (tB (eCall fIsTL (aCons (eVar 1) aNil))) [some (.tup ds), some (.tup ds), none] true := tv_b (ev_call (av_cons (ev_var rfl) av_nil) fun _ => rfl)
    have t2 : Tv (tOr (tNot (tB (eCall fIsTL (aCons (eVar 0) aNil)))) (tB (eBin oNe (eCall (fIs .tLst) (aCons (eVar 0) aNil)) (eCall (fIs .tLst) (aCons (eVar 1) aNil))))) [some (.tup ds), some (.tup ds), none] false :=
      tv_or (k := false) (l := false) (tv_not (k := true) (tv_b (ev_call (av_cons (ev_var rfl) av_nil) fun _ => rfl))) fun _ => tv_b (ev_bin (x := .bl false) (y := .bl false) (ev_call (av_cons (ev_var rfl) av_nil) fun _ => rfl) (ev_call (av_cons (ev_var rfl) av_nil) fun _ => rfl) rfl)
    have hln : ∀ i, i < 2 → Ev (eUn oLen (eVar i)) [some (.tup ds), some (.tup ds), none] (.int ds.length) := fun i hi => by
      match i, hi with
      | 0, _ => exact ev_un (x := .tup ds) (ev_var rfl) rfl
      | 1, _ => exact ev_un (x := .tup ds) (ev_var rfl) rfl
    have t3 : Tv (tB (eBin oNe (eUn oLen (eVar 0)) (eUn oLen (eVar 1)))) [some (.tup ds), some (.tup ds), none] false := by
      have z := tv_b (ev_bin (hln 0 (by decide)) (hln 1 (by decide)) (oNe_int _ _))
      rw [beq_self_eq_true] at z
      exact z
    have c := ev_comp (vs := [2]) (w := wRange (eUn oLen (eVar 1))) (tg := gVar 2) (s := [some (.tup ds), some (.tup ds), none]) (enc := D.int) (xs := ran ds.length) (F := D.int) (p := fun _ => false) (st := fun i => [some (.tup ds), some (.tup ds), some (.int i)])
      (t := tNot (tB (eCall (F_law_alike k) (aCons (eBin oIx (eVar 0) (eVar 2)) (aCons (eBin oIx (eVar 1) (eVar 2)) aNil))))) (e := eVar 2) (av_range (hln 1 (by decide)) hl) (by rw [ran_length]; exact hl) fun i hi => by
        obtain ⟨i1, i2⟩ := mem_ran.mp hi
        have hlt : i.toNat < ds.length := by omega
        have ix : oIx (.tup ds) (.int i) = some ds[i.toNat] := by
          show (match ixOf ds.length i with | some j => ds[j]? | none => none) = _
          rw [ixOf_nn i1 i2]
          exact List.getElem?_eq_getElem hlt
        have ih := alike_self k ds[i.toNat] (List.all_eq_true.mp ha _ (List.getElem_mem hlt))
        exact ⟨rfl, tv_not (k := true) (tv_b (ev_call (av_cons (ev_bin (ev_var rfl) (ev_var rfl) ix) (av_cons (ev_bin (ev_var rfl) (ev_var rfl) ix) av_nil)) ih)), fun q => by cases q⟩
    have hf : (ran ds.length).filter (fun _ => false) = [] := List.filter_eq_nil_iff.mpr fun _ _ => by simp
    rw [hf] at c
    exact fv_rt (rt_seq1 (rt_if t1 (fun _ => rt_seq (nx_if t2 (fun q => by cases q) fun _ => nx_nil) (rt_seq (nx_if t3 (fun q => by cases q) fun _ => nx_nil) (rt_seq1 (rt_ret (ev_bin c (ev_lst av_nil (by decide)) rfl))))) fun q => by cases q))
theorem plain_TI (l : List Int) (h : l.length ≤ 1000) : plainD 6 (TI l) = true := by
  show (decide ((l.map D.int).length ≤ 1000) && (l.map D.int).all (plainD 5)) = true
  rw [List.length_map, decide_eq_true h, Bool.true_and, List.all_map, List.all_eq_true]
  intro x _; rfl
/-! ### showing the most -/
section
variable {n : Nat} {ds row : List Int} {b : Int}
theorem fv_most (V : DVal n ds) (h1 : 1 ≤ n) (h4 : n ≤ 4) (hm : Fv F_most_row [TI ds] (.tup [.int b, TI row])) : Fv F_most_handings [TI ds] (.tup [.int b, TI row]) :=
  fv_rt (rt_seq (nx_ex (ev_call (av_cons (ev_var rfl) av_nil) (fv_need V h1 (by omega)))) (rt_seq1 (rt_ret (ev_call (av_cons (ev_var rfl) av_nil) hm))))
theorem shows_start (V : DVal n ds) (h1 : 1 ≤ n) (h4 : n ≤ 4) (hm : Fv F_most_row [TI ds] (.tup [.int b, TI row])) {v d : D} {m : Sm} (h : Rt m [some (TI ds), some v, some (.int b), some (.int n)] d) :
    Fv (runFn 2 4 (sSeq (sEx (eCall F_need_deputies (aCons (eVar 0) aNil))) (sSeq (sPar [2, 3] (aCons (eBin oIx (eCall F_most_row (aCons (eVar 0) aNil)) (eC (.int 0))) (aCons (eUn oLen (eVar 0)) aNil))) m))) [TI ds, v] d :=
  fv_rt (rt_seq (nx_ex (ev_call (av_cons (ev_var rfl) av_nil) (fv_need V h1 (by omega)))) (rt_seq (nx_par (av_cons (ev_bin (x := .tup [.int b, TI row]) (y := .int 0) (z := .int b) (ev_call (av_cons (ev_var rfl) av_nil) hm) ev_c rfl) (av_cons (ev_un (ev_var rfl) (by rw [oLen_TI, V.len])) av_nil))) h))
/-- not a tuple -/
theorem shows_no (V : DVal n ds) (h1 : 1 ≤ n) (h4 : n ≤ 4) (hm : Fv F_most_row [TI ds] (.tup [.int b, TI row])) {v : D} (hv : ∀ r, fIs .tTup [v] r = some (.bl false, r)) : Fv F_shows_most_handings [TI ds, v] (.bl false) :=
  shows_start V h1 h4 hm (rt_seq1 (rt_if (k := true) (tv_or (k := true) (l := true) (tv_not (k := false) (tv_b (ev_call (av_cons (ev_var rfl) av_nil) hv))) (fun q => by cases q)) (fun _ => rt_seq1 (rt_ret ev_c)) fun q => by cases q))
theorem shows_test {c : Int} {x : D} : Tv (tOr (tNot (tB (eCall (fIs .tTup) (aCons (eVar 1) aNil)))) (tOr (tB (eBin oNe (eUn oLen (eVar 1)) (eC (.int 2)))) (tNot (tB (eCall F_is_in (aCons (eBin oIx (eVar 1) (eC (.int 0))) (aCons (eVar 2) (aCons (eVar 2) aNil))))))))
    [some (TI ds), some (.tup [.int c, x]), some (.int b), some (.int n)] (!(decide (b ≤ c) && decide (c ≤ b))) := by
  have z := tv_or (tv_not (k := true) (tv_b (ev_call (f := fIs .tTup) (s := [some (TI ds), some (.tup [.int c, x]), some (.int b), some (.int n)]) (av_cons (ev_var (i := 1) rfl) av_nil) fun _ => rfl))) fun _ => tv_or (k := false) (tv_b (ev_bin (o := oNe) (x := .int 2) (y := .int 2) (ev_un (o := oLen) (x := .tup [.int c, x]) (ev_var (i := 1) rfl) rfl) ev_c rfl)) fun _ =>
    tv_not (tv_b (ev_call (av_cons (ev_bin (o := oIx) (x := .tup [.int c, x]) (y := .int 0) (z := .int c) (ev_var (i := 1) rfl) ev_c rfl) (av_cons (ev_var (i := 2) rfl) (av_cons (ev_var (i := 2) rfl) av_nil))) (fv_is_in c b b)))
  exact z
/-- another count -/
theorem shows_other (V : DVal n ds) (h1 : 1 ≤ n) (h4 : n ≤ 4) (hm : Fv F_most_row [TI ds] (.tup [.int b, TI row])) {x : D} : Fv F_shows_most_handings [TI ds, .tup [.int (b + 1), x]] (.bl false) := by
  have z : Tv _ _ _ := shows_test (n := n) (ds := ds) (b := b) (c := b + 1) (x := x)
  have e : (!(decide (b ≤ b + 1) && decide (b + 1 ≤ b))) = true := by simp; omega
  rw [e] at z
  exact shows_start V h1 h4 hm (rt_seq1 (rt_if z (fun _ => rt_seq1 (rt_ret ev_c)) fun q => by cases q))
theorem shows_pair (V : DVal n ds) (h1 : 1 ≤ n) (h4 : n ≤ 4) (hm : Fv F_most_row [TI ds] (.tup [.int b, TI row])) {x : D} {k : Bool} (h : Ev (eAnd (eCall F_is_order (aCons (eVar 3) (aCons (eBin oIx (eVar 1) (eC (.int 1))) aNil))) (eAnd (eBin oEq (eUn oLen (eBin oIx (eVar 1) (eC (.int 1)))) (eVar 3)) (eBin oEq (eCall F_handed (aCons (eVar 0) (aCons (eBin oIx (eVar 1) (eC (.int 1))) aNil))) (eVar 2))))
    [some (TI ds), some (.tup [.int b, x]), some (.int b), some (.int n)] (.bl k)) : Fv F_shows_most_handings [TI ds, .tup [.int b, x]] (.bl k) := by
  have z : Tv _ _ _ := shows_test (n := n) (ds := ds) (b := b) (c := b) (x := x)
  have e : (!(decide (b ≤ b) && decide (b ≤ b))) = false := by simp
  rw [e] at z
  exact shows_start V h1 h4 hm (rt_seq (nx_if z (fun q => by cases q) fun _ => nx_nil) (rt_seq1 (rt_ret h)))
theorem shows_order (V : DVal n ds) (h1 : 1 ≤ n) (h4 : n ≤ 4) (hm : Fv F_most_row [TI ds] (.tup [.int b, TI row])) {o : List Int} (ho : Ord n o) : Fv F_shows_most_handings [TI ds, .tup [.int b, TI o]] (.bl (handed ds o == b)) := by
  have ix : Ev (eBin oIx (eVar 1) (eC (.int 1))) [some (TI ds), some (.tup [.int b, TI o]), some (.int b), some (.int n)] (TI o) := ev_bin (x := .tup [.int b, TI o]) (y := .int 1) (ev_var rfl) ev_c rfl
  have z := ev_and (k := true) (ev_call (av_cons (ev_var (i := 3) rfl) (av_cons ix av_nil)) (fv_is_order ho.nd ho.rng (by omega))) fun _ => ev_and (ev_bin (o := oEq) (ev_un (o := oLen) ix (oLen_TI o)) (ev_var (i := 3) rfl) (oEq_int _ _)) fun _ => ev_bin (o := oEq) (ev_call (av_cons (ev_var (i := 0) rfl) (av_cons ix av_nil)) (fv_handed V.toVal (by omega) (by rw [ho.len]; omega))) (ev_var (i := 2) rfl) (oEq_int _ _)
  rw [ho.len, beq_self_eq_true] at z
  exact shows_pair V h1 h4 hm z
theorem shows_empty (V : DVal n ds) (h1 : 1 ≤ n) (h4 : n ≤ 4) (hm : Fv F_most_row [TI ds] (.tup [.int b, TI row])) : Fv F_shows_most_handings [TI ds, .tup [.int b, TI []]] (.bl false) := by
  have ix : Ev (eBin oIx (eVar 1) (eC (.int 1))) [some (TI ds), some (.tup [.int b, TI []]), some (.int b), some (.int n)] (TI []) := ev_bin (x := .tup [.int b, TI []]) (y := .int 1) (ev_var rfl) ev_c rfl
  have e : oEq (.int ((0 : Nat) : Int)) (.int n) = some (.bl false) := by
    rw [oEq_int]
    have : (((0 : Nat) : Int) == (n : Int)) = false := by simp; omega
    rw [this]
  exact shows_pair V h1 h4 hm (ev_and (k := true) (l := false) (ev_call (av_cons (ev_var (i := 3) rfl) (av_cons ix av_nil)) (fv_is_order (n := n) List.nodup_nil (fun _ h => by cases h) (by omega))) fun _ => ev_and (k := false) (l := false) (ev_bin (o := oEq) (x := .int ((0 : Nat) : Int)) (ev_un (o := oLen) ix rfl) (ev_var (i := 3) rfl) e) fun q => by cases q)
theorem shows_list (V : DVal n ds) (h1 : 1 ≤ n) (h4 : n ≤ 4) (hm : Fv F_most_row [TI ds] (.tup [.int b, TI row])) {o : List Int} : Fv F_shows_most_handings [TI ds, .tup [.int b, LI o]] (.bl false) := by
  have ix : Ev (eBin oIx (eVar 1) (eC (.int 1))) [some (TI ds), some (.tup [.int b, LI o]), some (.int b), some (.int n)] (LI o) := ev_bin (x := .tup [.int b, LI o]) (y := .int 1) (ev_var rfl) ev_c rfl
  exact shows_pair V h1 h4 hm (ev_and (k := false) (l := false) (ev_call (av_cons (ev_var (i := 3) rfl) (av_cons ix av_nil)) (fv_is_order_no fun _ => rfl)) fun q => by cases q)
end
end PL
end
section
set_option Elab.async false
set_option autoImplicit false
set_option linter.all false
set_option maxRecDepth 100000
set_option maxHeartbeats 1000000
/-! L8: the law ahead of the weights: statement by statement. -/
namespace PL
section
variable {n : Nat} {ds ot row : List Int} {b : Int}
/-- the slots: 0 to 5, then l -/
def S6 (n : Nat) (ds ot : List Int) (l : Sl) : Sl := none :: some .row :: some (.int n) :: some (TI ds) :: some (TI ot) :: some (LT (perms n)) :: l
def sums (n : Nat) (ds : List Int) : List Int := (perms n).map (handed ds)
abbrev no (k : Nat) : Sl := List.replicate k none
theorem s2_ok (V : DVal n ds) (h1 : 1 ≤ n) (h4 : n ≤ 4) : Nx pS2 (S6 n ds ot (no 18)) (S6 n ds ot (some (LI (sums n ds)) :: no 17)) := by
  have hp := perms_len h1 h4
  have c : Ev (eComp [7] (wSeq (eVar 5)) (gVar 7) tYes (eUn oSum (eComp [8] (wRange (eVar 2)) (gVar 8) tYes (eBin oSub (eUn oLen (eCall F_law_handed (aCons (eVar 3) (aCons (eVar 7) (aCons (eVar 8) aNil))))) (eC (.int 1)))))) (S6 n ds ot (no 18)) (LI (sums n ds)) := by
    unfold sums LI
    rw [List.map_map]
    refine ev_comp' (enc := TI) (F := D.int ∘ handed ds) (st := fun o => S6 n ds ot (none :: some (TI o) :: no 16)) (av_seqL (ev_var rfl)) (by omega) fun o ho => ⟨rfl, ?_⟩
    have O := perms_ord h1 h4 ho
    have i := ev_comp' (vs := [8]) (w := wRange (eVar 2)) (tg := gVar 8) (s := S6 n ds ot (none :: some (TI o) :: no 16)) (enc := D.int) (xs := ran n) (F := fun p => D.int (((traceL ds o p).length : Int) - 1)) (st := fun p => S6 n ds ot (none :: some (TI o) :: some (.int p) :: no 15))
      (e := eBin oSub (eUn oLen (eCall F_law_handed (aCons (eVar 3) (aCons (eVar 7) (aCons (eVar 8) aNil))))) (eC (.int 1))) (av_range (ev_var rfl) (by omega)) (by rw [ran_length]; omega) fun p hp => ⟨rfl, ev_bin (ev_un (ev_call (av_cons (ev_var rfl) (av_cons (ev_var rfl) (av_cons (ev_var rfl) av_nil))) (fv_lhanded V.toVal (by omega) (by rw [O.len]; omega) hp)) (oLen_LI _)) ev_c rfl⟩
    have e : ((ran n).map fun p => D.int (((traceL ds o p).length : Int) - 1)) = ((ran n).map fun p => ((traceL ds o p).length : Int) - 1).map .int := by rw [List.map_map]; rfl
    rw [e] at i
    refine ev_un i ?_
    rw [oSum_LI]
    show some (D.int _) = some (D.int (handed ds o))
    unfold handed
    rw [V.len]
    congr 3
    refine List.map_congr_left fun p hp => ?_
    rw [(tr_of h1 h4 V ho hp).1]
  exact nx_set c
theorem maxI_le : ∀ (l : List Int) (m b : Int), m ≤ b → (∀ x ∈ l, x ≤ b) → maxI m l ≤ b
  | [], m, b, h, _ => h
  | x :: l, m, b, h, hl => by
    unfold maxI
    refine maxI_le l _ b ?_ fun y hy => hl y (List.mem_cons_of_mem _ hy)
    split
    · exact hl x List.mem_cons_self
    · exact h
theorem le_maxI : ∀ (l : List Int) (m : Int), m ≤ maxI m l ∧ ∀ x ∈ l, x ≤ maxI m l
  | [], m => ⟨Int.le_refl _, fun _ h => by cases h⟩
  | x :: l, m => by
    unfold maxI
    obtain ⟨h1, h2⟩ := le_maxI l (if m < x then x else m)
    have key : m ≤ (if m < x then x else m) ∧ x ≤ (if m < x then x else m) := by split <;> omega
    refine ⟨Int.le_trans key.1 h1, fun y hy => ?_⟩
    rcases List.mem_cons.mp hy with e | e
    · subst e
      exact Int.le_trans key.2 h1
    · exact h2 y e
theorem oMax_LI {l : List Int} (hb : b ∈ l) (h : ∀ x ∈ l, x ≤ b) : oMax (LI l) = some (.int b) := by
  show (match asInts (l.map D.int) with | some (x :: xs) => some (D.int (maxI x xs)) | _ => none) = _
  rw [asInts_map]
  cases l with
  | nil => cases hb
  | cons x xs =>
    have a1 := maxI_le xs x b (h x List.mem_cons_self) fun y hy => h y (List.mem_cons_of_mem _ hy)
    obtain ⟨a2, a3⟩ := le_maxI xs x
    have a4 : b ≤ maxI x xs := by
      rcases List.mem_cons.mp hb with e | e
      · rw [e]; exact a2
      · exact a3 b e
    show some (D.int (maxI x xs)) = _
    rw [show maxI x xs = b by omega]
/-- what is known of the best -/
structure Best (n : Nat) (ds : List Int) (b : Int) (row : List Int) : Prop where
  fv : Fv F_most_row [TI ds] (.tup [.int b, TI row])
  mem : row ∈ perms n
  eq : handed ds row = b
  le : ∀ o ∈ perms n, handed ds o ≤ b
abbrev fnd (b : Int) (row : List Int) : D := .tup [.int b, TI row]
theorem s3_ok (V : DVal n ds) (h1 : 1 ≤ n) (h4 : n ≤ 4) (B : Best n ds b row) : Nx pS3 (S6 n ds ot (some (LI (sums n ds)) :: no 17)) (S6 n ds ot (some (LI (sums n ds)) :: none :: none :: some (.int b) :: some (fnd b row) :: no 13)) :=
  nx_par (av_cons (ev_un (o := oMax) (ev_var rfl) (oMax_LI (List.mem_map.mpr ⟨row, B.mem, B.eq⟩) fun x hx => by
    obtain ⟨o, ho, rfl⟩ := List.mem_map.mp hx
    exact B.le o ho)) (av_cons (ev_call (av_cons (ev_var rfl) av_nil) (fv_most V h1 h4 B.fv)) av_nil))
theorem has_any {l : List (List Int)} {x : List Int} (h : x ∈ l) : (l.any fun y => y == x) = true := List.any_eq_true.mpr ⟨x, h, beq_self_eq_true x⟩
theorem s4_ok (B : Best n ds b row) (l2 : Sl) : Nx pS4 (S6 n ds ot (some (LI (sums n ds)) :: none :: none :: some (.int b) :: some (fnd b row) :: l2)) (S6 n ds ot (some (LI (sums n ds)) :: none :: none :: some (.int b) :: some (fnd b row) :: l2)) := by
  generalize hs : S6 n ds ot (some (LI (sums n ds)) :: none :: none :: some (.int b) :: some (fnd b row) :: l2) = s
  have v10 : Ev (eVar 10) s (fnd b row) := ev_var (by rw [← hs]; rfl)
  have v9 : Ev (eVar 9) s (.int b) := ev_var (by rw [← hs]; rfl)
  have v5 : Ev (eVar 5) s (LT (perms n)) := ev_var (by rw [← hs]; rfl)
  have i1 : Ev (eBin oIx (eVar 10) (eC (.int 1))) s (TI row) := ev_bin v10 ev_c rfl
  have t4 := tv_b (ev_bin (o := oNotInD) i1 v5 (oNotInD_LT _ _))
  rw [has_any B.mem] at t4
  have t5 := tv_b (ev_bin (o := oNe) (ix_sums (f := handed ds) (i := 6) (j := 5) i1 B.mem (by rw [← hs]; rfl) (by rw [← hs]; rfl)) v9 (oNe_int _ _))
  rw [B.eq, beq_self_eq_true] at t5
  have t3 := tv_b (ev_bin (o := oNe) (x := .int b) (ev_bin (o := oIx) v10 (ev_c (v := .int 0)) rfl) v9 (oNe_int _ _))
  rw [beq_self_eq_true] at t3
  exact nx_if (k := false) (tv_or (k := false) (l := false) (tv_not (k := true) (tv_b (ev_call (av_cons v10 av_nil) fun _ => rfl))) fun _ => tv_or (k := false) (l := false) (tv_b (ev_bin (x := .int 2) (y := .int 2) (ev_un v10 rfl) ev_c rfl)) fun _ => tv_or (k := false) (l := false) t3 fun _ => tv_or (k := false) (l := false) t4 fun _ => t5) (fun q => by cases q) fun _ => nx_nil
/-! ### the values shown -/
def S5 (n : Nat) (ds ot : List Int) (b : Int) (row : List Int) (j1 j2 : Option D) (l : Sl) : Sl := S6 n ds ot (some (LI (sums n ds)) :: none :: none :: some (.int b) :: some (fnd b row) :: j1 :: j2 :: l)
theorem q5_ok {v : D} {j2 : Option D} {l : Sl} {k1 k : Bool} (he1 : ∀ j2, Ev (eAnd (eCall (fIs .tTup) (aCons (eVar 11) aNil)) (eAnd (eBin oEq (eUn oLen (eVar 11)) (eC (.int 2))) (eAnd (eBin oEq (eBin oIx (eVar 11) (eC (.int 0))) (eVar 9)) (eCall (fIs .tTup) (aCons (eBin oIx (eVar 11) (eC (.int 1))) aNil))))) (S5 n ds ot b row (some v) j2 l) (.bl k1))
    (he2 : k1 = true → Ev (eAnd (eBin oInD (eBin oIx (eVar 11) (eC (.int 1))) (eVar 5)) (eBin oEq (eBin oIx (eVar 6) (eBin oIndex (eVar 5) (eBin oIx (eVar 11) (eC (.int 1))))) (eVar 9))) (S5 n ds ot b row (some v) (some (.bl k1)) l) (.bl k))
    (hs : Fv F_shows_most_handings [TI ds, v] (.bl (k1 && k))) : Nx q5 (S5 n ds ot b row (some v) j2 l) (S5 n ds ot b row (some v) (some (.bl (k1 && k))) l) := by
  have t := tv_not (tv_b (ev_call (f := F_law_alike 6) (s := S5 n ds ot b row (some v) (some (.bl (k1 && k))) l) (av_cons (ev_call (av_cons (ev_var (i := 3) rfl) (av_cons (ev_var (i := 11) rfl) av_nil)) hs) (av_cons (ev_var (i := 12) rfl) av_nil)) (alike_self 6 (.bl (k1 && k)) rfl)))
  exact nx_seq (nx_set (he1 j2)) (nx_seq (nx_set (ev_and (ev_var rfl) he2)) (nx_seq (nx_if t (fun q => by cases q) fun _ => nx_nil) nx_nil))
theorem good_pair (V : DVal n ds) (h1 : 1 ≤ n) (h4 : n ≤ 4) (B : Best n ds b row) {o : List Int} (ho : o ∈ perms n) (j2 : Option D) (l : Sl) : ∃ k, Nx q5 (S5 n ds ot b row (some (.tup [.int b, TI o])) j2 l) (S5 n ds ot b row (some (.tup [.int b, TI o])) (some (.bl k)) l) := by
  refine ⟨_, q5_ok (k1 := true) (k := handed ds o == b) (fun j2 => ?_) (fun _ => ?_) (shows_order V h1 h4 B.fv (perms_ord h1 h4 ho))⟩
  · have z := ev_bin (o := oEq) (x := .int b) (ev_bin (o := oIx) (x := .tup [.int b, TI o]) (ev_var (i := 11) (s := S5 n ds ot b row (some (.tup [.int b, TI o])) j2 l) rfl) (ev_c (v := .int 0)) rfl) (ev_var (i := 9) rfl) (oEq_int b b)
    rw [beq_self_eq_true] at z
    exact ev_and (k := true) (l := true) (ev_call (av_cons (ev_var rfl) av_nil) fun _ => rfl) fun _ => ev_and (k := true) (l := true) (ev_bin (x := .int 2) (y := .int 2) (ev_un (x := .tup [.int b, TI o]) (ev_var rfl) rfl) ev_c rfl) fun _ => ev_and (k := true) (l := true) z fun _ => ev_call (av_cons (ev_bin (x := .tup [.int b, TI o]) (y := .int 1) (z := TI o) (ev_var rfl) ev_c rfl) av_nil) fun _ => rfl
  · have i1 : Ev (eBin oIx (eVar 11) (eC (.int 1))) (S5 n ds ot b row (some (.tup [.int b, TI o])) (some (.bl true)) l) (TI o) := ev_bin (x := .tup [.int b, TI o]) (ev_var rfl) ev_c rfl
    have z := ev_bin (o := oInD) i1 (ev_var (i := 5) rfl) (oInD_LT (perms n) o)
    rw [has_any ho] at z
    exact ev_and (k := true) z fun _ => ev_bin (ix_sums (f := handed ds) i1 ho) (ev_var (i := 9) rfl) (oEq_int _ _)
/-- a value that is none -/
theorem good_no {v : D} (hv : ∀ r, fIs .tTup [v] r = some (.bl false, r)) (hs : Fv F_shows_most_handings [TI ds, v] (.bl false)) (j2 : Option D) (l : Sl) : ∃ k, Nx q5 (S5 n ds ot b row (some v) j2 l) (S5 n ds ot b row (some v) (some (.bl k)) l) :=
  ⟨_, q5_ok (k1 := false) (k := false) (fun j2 => ev_and (k := false) (l := false) (ev_call (av_cons (ev_var rfl) av_nil) hv) fun q => by cases q) (fun q => by cases q) hs⟩
theorem good_other (V : DVal n ds) (h1 : 1 ≤ n) (h4 : n ≤ 4) (B : Best n ds b row) {x : D} (j2 : Option D) (l : Sl) : ∃ k, Nx q5 (S5 n ds ot b row (some (.tup [.int (b + 1), x])) j2 l) (S5 n ds ot b row (some (.tup [.int (b + 1), x])) (some (.bl k)) l) := by
  refine ⟨_, q5_ok (k1 := false) (k := false) (fun j2 => ?_) (fun q => by cases q) (shows_other V h1 h4 B.fv)⟩
  have z := ev_bin (o := oEq) (x := .int (b + 1)) (ev_bin (o := oIx) (x := .tup [.int (b + 1), x]) (ev_var (i := 11) (s := S5 n ds ot b row (some (.tup [.int (b + 1), x])) j2 l) rfl) (ev_c (v := .int 0)) rfl) (ev_var (i := 9) rfl) (oEq_int (b + 1) b)
  have e : (b + 1 == b) = false := by simp; omega
  rw [e] at z
  exact ev_and (k := true) (l := false) (ev_call (av_cons (ev_var rfl) av_nil) fun _ => rfl) fun _ => ev_and (k := true) (l := false) (ev_bin (x := .int 2) (y := .int 2) (ev_un (x := .tup [.int (b + 1), x]) (ev_var rfl) rfl) ev_c rfl) fun _ => ev_and (k := false) (l := false) z fun q => by cases q
theorem e1_same {x : D} {k : Bool} {j2 : Option D} {l : Sl} (hx : ∀ r, fIs .tTup [x] r = some (.bl k, r)) : Ev (eAnd (eCall (fIs .tTup) (aCons (eVar 11) aNil)) (eAnd (eBin oEq (eUn oLen (eVar 11)) (eC (.int 2))) (eAnd (eBin oEq (eBin oIx (eVar 11) (eC (.int 0))) (eVar 9)) (eCall (fIs .tTup) (aCons (eBin oIx (eVar 11) (eC (.int 1))) aNil))))) (S5 n ds ot b row (some (.tup [.int b, x])) j2 l) (.bl k) := by
  have z := ev_bin (o := oEq) (x := .int b) (ev_bin (o := oIx) (x := .tup [.int b, x]) (ev_var (i := 11) (s := S5 n ds ot b row (some (.tup [.int b, x])) j2 l) rfl) (ev_c (v := .int 0)) rfl) (ev_var (i := 9) rfl) (oEq_int b b)
  rw [beq_self_eq_true] at z
  exact ev_and (k := true) (l := k) (ev_call (av_cons (ev_var rfl) av_nil) fun _ => rfl) fun _ => ev_and (k := true) (l := k) (ev_bin (x := .int 2) (y := .int 2) (ev_un (x := .tup [.int b, x]) (ev_var rfl) rfl) ev_c rfl) fun _ => ev_and (k := true) (l := k) z fun _ => ev_call (av_cons (ev_bin (x := .tup [.int b, x]) (y := .int 1) (z := x) (ev_var rfl) ev_c rfl) av_nil) hx
theorem good_list (V : DVal n ds) (h1 : 1 ≤ n) (h4 : n ≤ 4) (B : Best n ds b row) {o : List Int} (j2 : Option D) (l : Sl) : ∃ k, Nx q5 (S5 n ds ot b row (some (.tup [.int b, LI o])) j2 l) (S5 n ds ot b row (some (.tup [.int b, LI o])) (some (.bl k)) l) :=
  ⟨_, q5_ok (k1 := false) (k := false) (fun j2 => e1_same fun _ => rfl) (fun q => by cases q) (shows_list V h1 h4 B.fv)⟩
theorem perms_ne (h1 : 1 ≤ n) (h4 : n ≤ 4) : ((perms n).any fun y => y == []) = false := by
  refine Bool.eq_false_iff.mpr fun h => ?_
  obtain ⟨x, hx, e⟩ := List.any_eq_true.mp h
  have := (perms_ord h1 h4 hx).len
  rw [eq_of_beq e] at this
  simp at this
  omega
theorem good_empty (V : DVal n ds) (h1 : 1 ≤ n) (h4 : n ≤ 4) (B : Best n ds b row) (j2 : Option D) (l : Sl) : ∃ k, Nx q5 (S5 n ds ot b row (some (.tup [.int b, TI []])) j2 l) (S5 n ds ot b row (some (.tup [.int b, TI []])) (some (.bl k)) l) := by
  refine ⟨_, q5_ok (k1 := true) (k := false) (fun j2 => e1_same fun _ => rfl) (fun _ => ?_) (shows_empty V h1 h4 B.fv)⟩
  have i1 : Ev (eBin oIx (eVar 11) (eC (.int 1))) (S5 n ds ot b row (some (.tup [.int b, TI []])) (some (.bl true)) l) (TI []) := ev_bin (x := .tup [.int b, TI []]) (ev_var rfl) ev_c rfl
  have z := ev_bin (o := oInD) i1 (ev_var (i := 5) rfl) (oInD_LT (perms n) [])
  rw [perms_ne h1 h4] at z
  exact ev_and (k := false) (l := false) z fun q => by cases q
def vals (n : Nat) (b : Int) (row : List Int) : List D := [fnd b row, .lst [.int b, TI row], .tup [.int (b + 1), TI row], .tup [.int b, LI row], .tup [.int b, TI []], .non, .int 3] ++ (perms n).map fun o => .tup [.int b, TI o]
theorem s5_ok (V : DVal n ds) (h1 : 1 ≤ n) (h4 : n ≤ 4) (B : Best n ds b row) (l : Sl) (hl : l = no 11) : ∃ j1 j2, Nx pS5 (S5 n ds ot b row none none l) (S5 n ds ot b row j1 j2 l) := by
  subst hl
  have hp := perms_len h1 h4
  have v10 : Ev (eVar 10) (S5 n ds ot b row none none (no 11)) (fnd b row) := ev_var rfl
  have v9 : Ev (eVar 9) (S5 n ds ot b row none none (no 11)) (.int b) := ev_var rfl
  have i1 : Ev (eBin oIx (eVar 10) (eC (.int 1))) (S5 n ds ot b row none none (no 11)) (TI row) := ev_bin v10 ev_c rfl
  have c := ev_comp' (vs := [7]) (w := wSeq (eVar 5)) (tg := gVar 7) (e := eTup (aCons (eVar 9) (aCons (eVar 7) aNil))) (s := S5 n ds ot b row none none (no 11)) (enc := TI) (xs := perms n) (F := fun o => D.tup [.int b, TI o]) (st := fun o => S6 n ds ot (some (LI (sums n ds)) :: some (TI o) :: none :: some (.int b) :: some (fnd b row) :: none :: none :: no 11))
    (av_seqL (ev_var rfl)) (by omega) fun o ho => ⟨rfl, ev_tup (av_cons (ev_var rfl) (av_cons (ev_var rfl) av_nil)) (by simp)⟩
  have w : Av w5 (S5 n ds ot b row none none (no 11)) ((vals n b row).map fun x => x) := by
    rw [List.map_id']
    refine av_seqL (ev_bin (o := oCatL) (ev_lst (av_cons v10 (av_cons (ev_un (y := .lst [.int b, TI row]) v10 rfl) (av_cons (ev_tup (av_cons (ev_bin (o := oAdd) v9 ev_c rfl) (av_cons i1 av_nil)) (by simp)) (av_cons (ev_tup (av_cons v9 (av_cons (ev_un (y := LI row) i1 rfl) av_nil)) (by simp)) (av_cons (ev_tup (av_cons v9 (av_cons (ev_tup av_nil (by simp)) av_nil)) (by simp)) (av_cons ev_c (av_cons ev_c av_nil))))))) (by simp)) c ?_)
    show (if _ then some (D.lst _) else none) = _
    rw [if_pos (by simp; omega)]
    rfl
  have L := nx_for (g := gVar 11) (b := q5) (w := w5) (enc := fun x : D => x) (xs := vals n b row) (S := fun (_ : Unit) (j : Option D × Option D) => S5 n ds ot b row j.1 j.2 (no 11)) (fun _ => True) (fun a _ => a) (a := ()) (j := (none, none)) w trivial fun a x j _ hx => by
    refine ⟨trivial, S5 n ds ot b row (some x) j.2 (no 11), ?_⟩
    have fin : (∃ k, Nx q5 (S5 n ds ot b row (some x) j.2 (no 11)) (S5 n ds ot b row (some x) (some (.bl k)) (no 11))) → ∃ j', gVar 11 x (S5 n ds ot b row j.1 j.2 (no 11)) = some (S5 n ds ot b row (some x) j.2 (no 11)) ∧ Nx q5 (S5 n ds ot b row (some x) j.2 (no 11)) ((fun (_ : Unit) (j : Option D × Option D) => S5 n ds ot b row j.1 j.2 (no 11)) a j') := fun ⟨k, h⟩ => ⟨(some x, some (.bl k)), rfl, h⟩
    refine fin ?_
    rcases List.mem_append.mp hx with h | h
    · simp only [List.mem_cons, List.not_mem_nil, or_false] at h
      rcases h with rfl | rfl | rfl | rfl | rfl | rfl | rfl
      · exact good_pair V h1 h4 B B.mem _ _
      · exact good_no (fun _ => rfl) (shows_no V h1 h4 B.fv fun _ => rfl) _ _
      · exact good_other V h1 h4 B _ _
      · exact good_list V h1 h4 B _ _
      · exact good_empty V h1 h4 B _ _
      · exact good_no (fun _ => rfl) (shows_no V h1 h4 B.fv fun _ => rfl) _ _
      · exact good_no (fun _ => rfl) (shows_no V h1 h4 B.fv fun _ => rfl) _ _
    · obtain ⟨o, ho, rfl⟩ := List.mem_map.mp h
      exact good_pair V h1 h4 B ho _ _
  obtain ⟨_, j', L⟩ := L
  exact ⟨j'.1, j'.2, L⟩
end
end PL
end
section
set_option Elab.async false
set_option autoImplicit false
set_option linter.all false
set_option maxRecDepth 100000
set_option maxHeartbeats 1000000
/-! W5: told_chance. -/
namespace PL
section
variable {σ : Type} [DecidableEq σ]
structure KOk (n k : Nat) (Q : σ → Prop) (K : Ky σ) : Prop where
  rng : ∀ x ∈ K.1, x ∈ ran n
  len : K.1.length = k
  q : Q K.2
structure MOk (n k B L : Nat) (Q : σ → Prop) (T : Tb σ) : Prop where
  nd : (T.map (·.1)).Nodup
  len : T.length ≤ L
  ent : ∀ e ∈ T, G k B e.2 ∧ KOk n k Q e.1
variable {n k B L Bk : Nat} {Q : σ → Prop} {T more : Tb σ} {K : Ky σ} {v : Rat} {p : Int} {w : List Int} {next : List Int → Int → σ → Option σ}
theorem MOk.up {B' L' : Nat} (M : MOk n k B L Q T) (hB : B ≤ B') (hL : L ≤ L') : MOk n k B' L' Q T :=
  ⟨M.nd, Nat.le_trans M.len hL, fun e he => ⟨(M.ent e he).1.up hB, (M.ent e he).2⟩⟩
theorem MOk.empty : MOk n k B L Q ([] : Tb σ) := ⟨List.nodup_nil, Nat.zero_le _, fun _ h => by cases h⟩
theorem MOk.get (M : MOk n k B L Q T) : G k B ((getT T K).getD 0) := by
  cases e : getT T K with
  | none => exact G.zero _ _
  | some x => exact (M.ent _ (mem_getT e)).1
theorem G.byI {k B : Nat} {q : Rat} {a l : Int} (h : G k B q) (h0 : 1 ≤ a) (h1 : a ≤ l) (h2 : l ≤ 36) : G (k + 1) B (q * mkRat a l.toNat) := by
  have e : a = ((a.toNat : Nat) : Int) := by omega
  rw [e]
  exact h.by (by omega) (by omega) (by omega)
theorem wd_mkI {a l : Int} (h0 : 1 ≤ a) (h1 : a ≤ l) (h2 : l ≤ 36) : Wd (mkRat a l.toNat) := by
  have := (G.one.byI h0 h1 h2).wd (by decide) (by decide)
  rwa [Rat.one_mul] at this
theorem fv_ratioI {a l : Int} (h0 : 1 ≤ a) (h1 : a ≤ l) (h2 : l ≤ 36) : Fv F_ratio [.int a, .int l] (RD (mkRat a l.toNat)) := by
  have e : D.int l = .int ((l.toNat : Nat) : Int) := by congr 1; omega
  rw [e]
  refine fv_ratio (by omega) (Nat.lt_trans ?_ wB_wide)
  have : 37 < wB := by unfold wB; exact Nat.lt_of_lt_of_le (by decide : 37 < 2 ^ 6) (Nat.pow_le_pow_right (by decide) (by decide))
  omega
theorem fv_lratioI {a l : Int} (h0 : 1 ≤ a) (h1 : a ≤ l) (h2 : l ≤ 36) : Fv F_law_ratio [.int a, .int l] (RD (mkRat a l.toNat)) := by
  have e : D.int l = .int ((l.toNat : Nat) : Int) := by congr 1; omega
  rw [e]
  refine fv_lratio (by omega) (Nat.lt_trans ?_ wB_wide)
  have : 37 < wB := by unfold wB; exact Nat.lt_of_lt_of_le (by decide : 37 < 2 ^ 6) (Nat.pow_le_pow_right (by decide) (by decide))
  omega
theorem put1_ok (W : WV n w) (h4 : n ≤ 4) (M : MOk n (k + 1) B L Q more) (hK : KOk n k Q K) (hv : G k Bk v) (hp : p ∈ ran n) (hQ : has K.1 p = false → ∀ s, next K.1 p K.2 = some s → Q s) : MOk n (k + 1) (B + Bk) (L + 1) Q (put1 next w K v more p) := by
  unfold put1
  split
  · exact M.up (by omega) (by omega)
  · rename_i hh
    have hh : has K.1 p = false := by simpa using hh
    split
    · exact M.up (by omega) (by omega)
    · rename_i s e
      obtain ⟨l1, l2, l3⟩ := left_rng (gone := K.1) W h4
      have part := hv.byI (W.nth hp).1 (l3 p hp hh) l2
      unfold addT
      refine ⟨nd_putT M.nd, Nat.le_trans len_putT (by have := M.len; omega), fun x hx => ?_⟩
      rcases mem_putT hx with z | z
      · exact ⟨(M.ent x z).1.up (by omega), (M.ent x z).2⟩
      · subst z
        refine ⟨M.get.add part, fun y hy => ?_, ?_, hQ hh s e⟩
        · rcases List.mem_append.mp (mem_isort.mp hy) with q | q
          · exact hK.rng y q
          · rw [List.mem_singleton.mp q]; exact hp
        · show (isort (K.1 ++ [p])).length = k + 1
          rw [len_isort, List.length_append, hK.len]; rfl
/-- the levels' bounds -/
def Bd : Nat → Nat
  | 0 => 1
  | k + 1 => 4 ^ k * 4 * Bd k
theorem Bd_le : ∀ k, k ≤ 4 → Bd k ≤ 2 ^ 20 := by decide
theorem pw_le : ∀ k, k ≤ 4 → 4 ^ k ≤ 256 := by decide
end
/-! ### the walk -/
abbrev cBy : Ex := eCall F_by (aCons (eBin oGet (eVar 5) (eTup (aCons (eVar 8) (aCons (eVar 9) aNil)))) (aCons (eCall F_ratio (aCons (eBin oIx (eVar 1) (eVar 11)) (aCons (eVar 10) aNil))) aNil))
abbrev cPl : Ex := eCall F_plus (aCons (eGet3 (eVar 7) (eTup (aCons (eVar 12) (aCons (eVar 13) aNil))) (eTup (aCons (eC (.int 0)) (aCons (eC (.int 1)) aNil)))) (aCons (eVar 14) aNil))
abbrev c3 : Sm := (sSeq (sIf (tB (eBin oNotIn (eVar 11) (eVar 8))) (sSeq (sSet 12 (eUn oTuple (eUn oSorted (eLst (aStar (eVar 8) (aCons (eVar 11) aNil)))))) (sSeq (sSet 13 (eCall F_goes_on (aCons (eVar 0) (aCons (eVar 2) (aCons (eVar 9) (aCons (eVar 12) aNil)))))) (sSeq (sIf (tB (eNotN (eVar 13))) (sSeq (sSet 14 cBy) (sSeq (sPut 7 (eTup (aCons (eVar 12) (aCons (eVar 13) aNil))) cPl) sNil)) sNil) sNil))) sNil) sNil)
abbrev c2 : Sm := (sSeq (sSet 10 (eCall F_left_weight (aCons (eVar 1) (aCons (eVar 8) aNil)))) (sSeq (sFor (gVar 11) (wRange (eVar 3)) c3) sNil))
abbrev c1 : Sm := (sSeq (sSet 7 eDict0) (sSeq (sFor (gTup [(gVar 8), (gVar 9)]) (wKeys (eVar 5)) c2) (sSeq (sSet 5 (eVar 7)) sNil)))
abbrev c4 : Sm := (sSeq (sIf (tB (eAll [11, 15, 9] (wZip (eVar 2) (eVar 4)) (gTup [(gTup [(gVar 11), (gVar 15)]), (gVar 9)]) tYes (eBin oEq (eVar 9) (eUn oLen (eVar 15))))) (sSeq (sSet 10 (eCall F_plus (aCons (eVar 10) (aCons (eBin oGet (eVar 5) (eTup (aCons (eVar 8) (aCons (eVar 4) aNil)))) aNil)))) sNil) sNil) sNil)
/-- the slots: 0 to 5, then l -/
def tS (n : Nat) (ds w : List Int) (told : List (Int × List Int)) (j : Option D) (T : Tb (List Int)) (l : Sl) : Sl := some (TI ds) :: some (TI w) :: some (TT told) :: some (.int n) :: j :: some (ET TI T) :: l
structure J9 where
  a : Option D
  b : Option D
  c : Option D
  d : Option D
  e : Option D
  f : Option D
  g : Option D
  h : Option D
section
variable {n k B L Bk : Nat} {ds w : List Int} {told : List (Int × List Int)} {T more : Tb (List Int)} {K : Ky (List Int)} {v : Rat} {p : Int} {j4 j6 : Option D}
theorem keyEv {s : Sl} {a b : Ex} {K : Ky (List Int)} (ha : Ev a s (TI K.1)) (hb : Ev b s (TI K.2)) : Ev (eTup (aCons a (aCons b aNil))) s (EK TI K) := ev_tup (av_cons ha (av_cons hb av_nil)) (by simp)
theorem c3_ok (V : Val n ds) (W : WV n w) (TVt : TV n told) (h4 : n ≤ 4) (hk : k < 4) (hB : B ≤ 2 ^ 30) (hL : L ≤ 900) (hBk : Bk ≤ 2 ^ 30) (M : MOk n (k + 1) B L (CV told) more) (hK : KOk n k (CV told) K) (hg : getT T K = some v) (hv : G k Bk v) (hp : p ∈ ran n) (j12 j13 j14 j15 : Option D) :
    ∃ i12 i13 i14, Nx c3 (tS n ds w told j4 T [j6, some (ET TI more), some (TI K.1), some (TI K.2), some (.int (left w K.1)), some (.int p), j12, j13, j14, j15])
      (tS n ds w told j4 T [j6, some (ET TI (put1 (nxT ds told) w K v more p)), some (TI K.1), some (TI K.2), some (.int (left w K.1)), some (.int p), i12, i13, i14, j15]) := by
  have t1 : Tv (tB (eBin oNotIn (eVar 11) (eVar 8))) (tS n ds w told j4 T [j6, some (ET TI more), some (TI K.1), some (TI K.2), some (.int (left w K.1)), some (.int p), j12, j13, j14, j15]) (!has K.1 p) := tv_b (ev_bin (ev_var rfl) (ev_var rfl) (oNotIn_TI _ _))
  unfold put1
  cases hh : has K.1 p with
  | true =>
    rw [hh] at t1
    rw [if_pos rfl]
    exact ⟨j12, j13, j14, nx_seq (nx_if (k := false) t1 (fun q => by cases q) fun _ => nx_nil) nx_nil⟩
  | false =>
    rw [hh] at t1
    rw [if_neg (by decide)]
    obtain ⟨l1, l2, l3⟩ := left_rng (gone := K.1) W h4
    have s1 : Nx (sSet 12 (eUn oTuple (eUn oSorted (eLst (aStar (eVar 8) (aCons (eVar 11) aNil)))))) (tS n ds w told j4 T [j6, some (ET TI more), some (TI K.1), some (TI K.2), some (.int (left w K.1)), some (.int p), j12, j13, j14, j15]) (tS n ds w told j4 T [j6, some (ET TI more), some (TI K.1), some (TI K.2), some (.int (left w K.1)), some (.int p), some (TI (isort (K.1 ++ [p]))), j13, j14, j15]) :=
      nx_set (ev_lot (ev_var rfl) (ev_var rfl) (by rw [hK.len]; omega))
    have s2 : Nx (sSet 13 (eCall F_goes_on (aCons (eVar 0) (aCons (eVar 2) (aCons (eVar 9) (aCons (eVar 12) aNil)))))) (tS n ds w told j4 T [j6, some (ET TI more), some (TI K.1), some (TI K.2), some (.int (left w K.1)), some (.int p), some (TI (isort (K.1 ++ [p]))), j13, j14, j15]) (tS n ds w told j4 T [j6, some (ET TI more), some (TI K.1), some (TI K.2), some (.int (left w K.1)), some (.int p), some (TI (isort (K.1 ++ [p]))), some (optTI (nxT ds told K.1 p K.2)), j14, j15]) :=
      nx_set (ev_call (av_cons (ev_var rfl) (av_cons (ev_var rfl) (av_cons (ev_var rfl) (av_cons (ev_var rfl) av_nil)))) (fv_goes_on V h4 TVt hK.q))
    cases hn : nxT ds told K.1 p K.2 with
    | none =>
      rw [hn] at s2
      dsimp only
      exact ⟨_, _, j14, nx_seq (nx_if (k := true) t1 (fun _ => nx_seq s1 (nx_seq s2 (nx_seq (nx_if (k := false) (tv_b (ev_notN (x := .non) (ev_var rfl))) (fun q => by cases q) fun _ => nx_nil) nx_nil))) fun q => by cases q) nx_nil⟩
    | some s =>
      rw [hn] at s2
      dsimp only
      have s2 : Nx _ _ (tS n ds w told j4 T [j6, some (ET TI more), some (TI K.1), some (TI K.2), some (.int (left w K.1)), some (.int p), some (TI (isort (K.1 ++ [p]))), some (TI s), j14, j15]) := s2
      have wv : Wd v := hv.wd (by omega) (by omega)
      have hw1 := (W.nth hp).1
      have hw2 := l3 p hp hh
      have part := hv.byI hw1 hw2 l2
      obtain ⟨p1, p2⟩ := mem_ran.mp hp
      have by' : Ev cBy (tS n ds w told j4 T [j6, some (ET TI more), some (TI K.1), some (TI K.2), some (.int (left w K.1)), some (.int p), some (TI (isort (K.1 ++ [p]))), some (TI s), j14, j15]) (RD (v * mkRat (nth w p) (left w K.1).toNat)) :=
        ev_call (av_cons (ev_get encL (ev_var rfl) (keyEv (ev_var rfl) (ev_var rfl)) hg) (av_cons (ev_call (av_cons (ev_bin (ev_var rfl) (ev_var rfl) (oIx_TI p1 (by rw [W.len]; exact p2))) (av_cons (ev_var rfl) av_nil)) (fv_ratioI hw1 hw2 l2)) av_nil)) (fv_by wv (wd_mkI hw1 hw2 l2))
      have wo : Wd ((getT more (isort (K.1 ++ [p]), s)).getD 0) := M.get.wd (by omega) (by omega)
      have pl : Ev cPl (tS n ds w told j4 T [j6, some (ET TI more), some (TI K.1), some (TI K.2), some (.int (left w K.1)), some (.int p), some (TI (isort (K.1 ++ [p]))), some (TI s), some (RD (v * mkRat (nth w p) (left w K.1).toNat)), j15]) (RD ((getT more (isort (K.1 ++ [p]), s)).getD 0 + v * mkRat (nth w p) (left w K.1).toNat)) :=
        ev_call (av_cons (ev_get3 encL (T := more) (K := (isort (K.1 ++ [p]), s)) (ev_var rfl) (keyEv (K := (isort (K.1 ++ [p]), s)) (ev_var rfl) (ev_var rfl)) ev_R0) (av_cons (ev_var rfl) av_nil)) (fv_plus wo (part.wd (by omega) (by omega)))
      have put : Nx (sPut 7 (eTup (aCons (eVar 12) (aCons (eVar 13) aNil))) cPl) (tS n ds w told j4 T [j6, some (ET TI more), some (TI K.1), some (TI K.2), some (.int (left w K.1)), some (.int p), some (TI (isort (K.1 ++ [p]))), some (TI s), some (RD (v * mkRat (nth w p) (left w K.1).toNat)), j15])
          (tS n ds w told j4 T [j6, some (ET TI (addT more (isort (K.1 ++ [p]), s) (v * mkRat (nth w p) (left w K.1).toNat))), some (TI K.1), some (TI K.2), some (.int (left w K.1)), some (.int p), some (TI (isort (K.1 ++ [p]))), some (TI s), some (RD (v * mkRat (nth w p) (left w K.1).toNat)), j15]) :=
        nx_put encL (T := more) (K := (isort (K.1 ++ [p]), s)) pl (keyEv (K := (isort (K.1 ++ [p]), s)) (ev_var rfl) (ev_var rfl)) (by have := M.len; omega)
      exact ⟨_, _, _, nx_seq (nx_if (k := true) t1 (fun _ => nx_seq s1 (nx_seq s2 (nx_seq (nx_if (k := true) (tv_b (ev_notN (x := TI s) (ev_var rfl))) (fun _ => nx_seq (nx_set by') (nx_seq put nx_nil)) fun q => by cases q) nx_nil))) fun q => by cases q) nx_nil⟩
theorem cv_next (hK : KOk n k (CV told) K) : ∀ s, nxT ds told K.1 p K.2 = some s → CV told s := fun s e => goesL_cv hK.q e
theorem c2_ok (V : Val n ds) (W : WV n w) (TVt : TV n told) (h4 : n ≤ 4) (hk : k < 4) (hB : B ≤ 2 ^ 29) (hL : L ≤ 890) (hBk : Bk ≤ 2 ^ 26) (M : MOk n (k + 1) B L (CV told) more) (hK : KOk n k (CV told) K) (hg : getT T K = some v) (hv : G k Bk v) (j10 j11 j12 j13 j14 j15 : Option D) :
    MOk n (k + 1) (B + 4 * Bk) (L + 4) (CV told) (row1 n (nxT ds told) w more (K, v)) ∧ ∃ i10 i11 i12 i13 i14, Nx c2 (tS n ds w told j4 T [j6, some (ET TI more), some (TI K.1), some (TI K.2), j10, j11, j12, j13, j14, j15])
      (tS n ds w told j4 T [j6, some (ET TI (row1 n (nxT ds told) w more (K, v))), some (TI K.1), some (TI K.2), i10, i11, i12, i13, i14, j15]) := by
  have s1 : Nx (sSet 10 (eCall F_left_weight (aCons (eVar 1) (aCons (eVar 8) aNil)))) (tS n ds w told j4 T [j6, some (ET TI more), some (TI K.1), some (TI K.2), j10, j11, j12, j13, j14, j15]) (tS n ds w told j4 T [j6, some (ET TI more), some (TI K.1), some (TI K.2), some (.int (left w K.1)), j11, j12, j13, j14, j15]) :=
    nx_set (ev_call (av_cons (ev_var rfl) (av_cons (ev_var rfl) av_nil)) (fv_left W h4))
  obtain ⟨I, j', L2⟩ := nx_fori (g := gVar 11) (b := c3) (w := wRange (eVar 3)) (enc := D.int) (xs := ran n) (S := fun (a : Tb (List Int)) (j : Option D × Option D × Option D × Option D) => tS n ds w told j4 T [j6, some (ET TI a), some (TI K.1), some (TI K.2), some (.int (left w K.1)), j.1, j.2.1, j.2.2.1, j.2.2.2, j15])
    (fun i a => MOk n (k + 1) (B + i * Bk) (L + i) (CV told) a) (put1 (nxT ds told) w K v) (a := more) (j := (j11, j12, j13, j14)) (av_range (n := n) (ev_var rfl) (by omega)) (M.up (by omega) (by omega)) fun i a x j hi hI hx => by
      rw [ran_length] at hi
      have hib : i * Bk ≤ 4 * Bk := Nat.mul_le_mul_right _ (by omega)
      have e := put1_ok W h4 hI hK hv hx fun _ => cv_next (ds := ds) (p := x) hK
      obtain ⟨i12, i13, i14, N⟩ := c3_ok (j4 := j4) (j6 := j6) V W TVt h4 hk (by omega) (by omega) (by omega) hI hK hg hv hx j.2.1 j.2.2.1 j.2.2.2 j15
      exact ⟨e.up (by rw [Nat.add_mul, Nat.one_mul, Nat.add_assoc]; exact Nat.le_refl _) (by omega), _, (some (.int x), i12, i13, i14), rfl, N⟩
  rw [ran_length] at I
  exact ⟨I.up (Nat.add_le_add_left (Nat.mul_le_mul_right _ h4) _) (by omega), _, _, _, _, _, nx_seq s1 (nx_seq L2 nx_nil)⟩
theorem c1_ok (V : Val n ds) (W : WV n w) (TVt : TV n told) (h4 : n ≤ 4) (hk : k < 4) (M : MOk n k (Bd k) (4 ^ k) (CV told) T) (j : J9) (j15 : Option D) :
    MOk n (k + 1) (Bd (k + 1)) (4 ^ (k + 1)) (CV told) (lvl n (nxT ds told) w T) ∧ ∃ i : J9, Nx c1 (tS n ds w told j4 T [j6, j.a, j.b, j.c, j.d, j.e, j.f, j.g, j.h, j15])
      (tS n ds w told j4 (lvl n (nxT ds told) w T) [j6, i.a, i.b, i.c, i.d, i.e, i.f, i.g, i.h, j15]) := by
  have hb := Bd_le k (by omega)
  have hl := M.len
  have hp := pw_le k (by omega)
  obtain ⟨I, j', L2⟩ := nx_fori (g := gTup [(gVar 8), (gVar 9)]) (b := c2) (w := wKeys (eVar 5)) (enc := fun e : Ky (List Int) × Rat => EK TI e.1) (xs := T) (S := fun (a : Tb (List Int)) (j : J9) => tS n ds w told j4 T [j6, some (ET TI a), j.b, j.c, j.d, j.e, j.f, j.g, j.h, j15])
    (fun i a => MOk n (k + 1) (i * (4 * Bd k)) (i * 4) (CV told) a) (row1 n (nxT ds told) w) (a := []) (j := j) (av_keys (ev_var rfl)) MOk.empty fun i a e j hi hI he => by
      obtain ⟨K, v⟩ := e
      have hv := M.ent _ he
      have hg := getT_mem M.nd he
      have h64 : T.length ≤ 64 := Nat.le_trans hl (Nat.pow_le_pow_right (n := 4) (by decide) (show k ≤ 3 by omega))
      have b1 : i * (4 * Bd k) ≤ 64 * (4 * 2 ^ 20) := Nat.mul_le_mul (by omega) (by omega)
      obtain ⟨M', i10, i11, i12, i13, i14, N⟩ := c2_ok (j4 := j4) (j6 := j6) V W TVt h4 hk (by omega) (by omega) (by omega) hI hv.2 hg hv.1 j.d j.e j.f j.g j.h j15
      exact ⟨M'.up (by rw [Nat.add_mul, Nat.one_mul]; exact Nat.le_refl _) (by omega), _, ⟨none, some (TI K.1), some (TI K.2), i10, i11, i12, i13, i14⟩, rfl, N⟩
  refine ⟨I.up ?_ ?_, ⟨some (ET TI (lvl n (nxT ds told) w T)), j'.b, j'.c, j'.d, j'.e, j'.f, j'.g, j'.h⟩, nx_seq (nx_set ev_dict0) (nx_seq L2 (nx_seq (nx_set (v := ET TI (lvl n (nxT ds told) w T)) (ev_var rfl)) nx_nil))⟩
  · show T.length * (4 * Bd k) ≤ 4 ^ k * 4 * Bd k
    rw [Nat.mul_assoc]
    exact Nat.mul_le_mul_right _ hl
  · rw [Nat.pow_succ]
    exact Nat.mul_le_mul_right _ hl
end
end PL
end
section
set_option Elab.async false
set_option autoImplicit false
set_option linter.all false
set_option maxRecDepth 100000
set_option maxHeartbeats 1000000
/-! W6: told_chance, whole. -/
namespace PL
section
variable {σ : Type} [DecidableEq σ]
def pick (c : σ → Bool) (a : Rat) (e : Ky σ × Rat) : Rat := if c e.1.2 = true then a + e.2 else a
theorem fold_pick (c : σ → Bool) : ∀ (T : Tb σ) (a : Rat), T.foldl (pick c) a = a + lin (fun K => if c K.2 = true then 1 else 0) T
  | [], a => by show a = a + 0; rw [Rat.add_zero]
  | e :: T, a => by
    rw [List.foldl_cons, fold_pick c T]
    show _ = a + ((if c e.1.2 = true then 1 else 0) * e.2 + lin (fun K => if c K.2 = true then 1 else 0) T)
    unfold pick
    split <;> grind
end
section
variable {n : Nat} {ds w : List Int} {told : List (Int × List Int)} {T : Tb (List Int)}
theorem c4_ok (TVt : TV n told) (h4 : n ≤ 4) {B C : Nat} (hB : B ≤ 2 ^ 29) (hC : C ≤ 2 ^ 29) {a : Rat} {e : Ky (List Int) × Rat} (hg : getT T e.1 = some e.2) (hv : G n B e.2) (ha : G n C a) (hcv : CV told e.1.2) (j6 j7 j9 j11 j12 j13 j14 j15 : Option D) :
    Nx c4 (tS n ds w told (some (TI e.1.2)) T [j6, j7, some (TI e.1.1), j9, some (RD a), j11, j12, j13, j14, j15]) (tS n ds w told (some (TI e.1.2)) T [j6, j7, some (TI e.1.1), j9, some (RD (pick (allC told) a e)), j11, j12, j13, j14, j15]) := by
  have A := ev_all (vs := [11, 15, 9]) (w := wZip (eVar 2) (eVar 4)) (tg := gTup [(gTup [(gVar 11), (gVar 15)]), (gVar 9)]) (e := eBin oEq (eVar 9) (eUn oLen (eVar 15))) (s := tS n ds w told (some (TI e.1.2)) T [j6, j7, some (TI e.1.1), j9, some (RD a), j11, j12, j13, j14, j15]) (enc := TPI) (xs := told.zip e.1.2)
    (st := fun q => tS n ds w told (some (TI e.1.2)) T [j6, j7, some (TI e.1.1), some (.int q.2), some (RD a), some (.int q.1.1), j12, j13, j14, some (TI q.1.2)]) (k := fun q => q.2 == (q.1.2.length : Int)) (av_zipT (ev_var rfl) (ev_var rfl)) fun q hq => ⟨rfl, ev_bin (ev_var rfl) (ev_un (ev_var rfl) (oLen_TI _)) (oEq_int _ _)⟩
  have t := tv_b A
  have ec : (told.zip e.1.2).all (fun q => q.2 == (q.1.2.length : Int)) = allC told e.1.2 := rfl
  rw [ec] at t
  unfold pick
  refine nx_seq (nx_if t (fun q => ?_) fun q => ?_) nx_nil
  · rw [if_pos q]
    refine nx_seq (nx_set (ev_call (av_cons (ev_var rfl) (av_cons (ev_get encL (K := e.1) (ev_var rfl) (keyEv (K := e.1) (ev_var rfl) (ev_var rfl)) hg) av_nil)) (fv_plus (ha.wd h4 (by omega)) (hv.wd h4 (by omega))))) nx_nil
  · rw [if_neg (by rw [q]; decide)]
    exact nx_nil
theorem cv_ones (TVt : TV n told) : CV told (told.map fun _ => 1) := ⟨by simp, fun q hq => by
  obtain ⟨h1, h2⟩ := List.of_mem_zip hq
  obtain ⟨_, _, e⟩ := List.mem_map.mp h2
  have := List.length_pos_iff.mpr (TVt.one _ h1).ne
  omega⟩
theorem MOk.base {σ : Type} [DecidableEq σ] {Q : σ → Prop} {s0 : σ} (h : Q s0) : MOk n 0 1 1 Q [(([], s0), 1)] := ⟨by simp, by simp, fun e he => by
  rw [List.mem_singleton.mp he]
  exact ⟨G.one, fun _ h => (by cases h), rfl, h⟩⟩
def sameR (ds : List Int) (told : List (Int × List Int)) (w o : List Int) : Rat := if same ds told o = true then chO w o else 0
theorem pre_head {l : List Int} {p : Int} (hn : l ≠ []) (h : nth l 0 = p) : preB [p] l = true := by
  cases l with
  | nil => exact absurd rfl hn
  | cons x l =>
    have : x = p := h
    subst this
    exact beq_self_eq_true _
theorem told_sum (W : WV n w) (TVt : TV n told) (h1 : 1 ≤ n) (h4 : n ≤ 4) : lin (fun K => if allC told K.2 = true then 1 else 0) (tbl n (nxT ds told) w (told.map fun _ => 1) n) = sumR ((perms n).map (sameR ds told w)) := by
  rw [lin_tbl n (nxT ds told) w W.len, pth_perms h1 h4]
  congr 1
  refine List.map_congr_left fun o ho => ?_
  rw [← pth_perms h1 h4] at ho
  unfold val sameR
  rw [sgO_told ds told (fun q hq => pre_head (TVt.one q hq).ne (TVt.one q hq).hd) n n o ho, ← same_iff ds o told]
  cases fits ds told o with
  | false => rfl
  | true =>
    show (if allC told (lens ds told o) = true then (1 : Rat) else 0) * chO w o = if (true && allC told (lens ds told o)) = true then chO w o else 0
    rw [Bool.true_and]
    split
    · exact Rat.one_mul _
    · exact Rat.zero_mul _
theorem fv_told (V : DVal n ds) (W : WV n w) (TVt : TV n told) (h1 : 1 ≤ n) (h4 : n ≤ 4) : Fv F_told_chance [TI ds, TI w, TT told] (RD (sumR ((perms n).map (sameR ds told w)))) := by
  rw [← told_sum (ds := ds) W TVt h1 h4]
  have d1 : Ev (eIf (tB (eIsN (eVar 4))) eDict0 (eDict1 (eTup (aCons (eTup aNil) (aCons (eVar 4) aNil))) (eTup (aCons (eC (.int 1)) (aCons (eC (.int 1)) aNil))))) (some (TI ds) :: some (TI w) :: some (TT told) :: some (.int n) :: some (TI (told.map fun _ => 1)) :: List.replicate 11 none) (ET TI [(([], told.map fun _ => 1), 1)]) :=
    ev_if (k := false) (tv_b (ev_isN (x := TI (told.map fun _ => 1)) (ev_var rfl))) (fun q => by cases q) fun _ => ev_dict1 encL (K := ([], told.map fun _ => 1)) (keyEv (K := ([], told.map fun _ => 1)) (ev_tup av_nil (by simp)) (ev_var rfl)) ev_R1
  have L1 := nx_fori (g := gVar 6) (b := c1) (w := wRange (eVar 3)) (enc := D.int) (xs := ran n) (S := fun (a : Tb (List Int)) (j : Option D × J9) => tS n ds w told (some (TI (told.map fun _ => 1))) a [j.1, j.2.a, j.2.b, j.2.c, j.2.d, j.2.e, j.2.f, j.2.g, j.2.h, none])
    (fun i a => MOk n i (Bd i) (4 ^ i) (CV told) a ∧ a = tbl n (nxT ds told) w (told.map fun _ => 1) i) (fun a _ => lvl n (nxT ds told) w a) (a := [(([], told.map fun _ => 1), 1)]) (j := (none, ⟨none, none, none, none, none, none, none, none⟩)) (av_range (n := n) (ev_var rfl) (by omega)) ⟨MOk.base (cv_ones TVt), rfl⟩ fun i a x j hi hI hx => by
      rw [ran_length] at hi
      obtain ⟨M, e⟩ := hI
      obtain ⟨M', i9, N⟩ := c1_ok (j4 := some (TI (told.map fun _ => 1))) (j6 := some (.int x)) V.toVal W TVt h4 (by omega) M j.2 none
      exact ⟨⟨M', by rw [e]; rfl⟩, _, (some (.int x), i9), rfl, N⟩
  obtain ⟨⟨M, e⟩, j', L1⟩ := L1
  rw [ran_length] at M e
  rw [e] at M L1
  generalize htb : tbl n (nxT ds told) w (told.map fun _ => 1) n = Tn at *
  have hb := Bd_le n h4
  have hp := pw_le n h4
  have hl := M.len
  have L2 := nx_fori (g := gTup [(gVar 8), (gVar 4)]) (b := c4) (w := wKeys (eVar 5)) (enc := fun e : Ky (List Int) × Rat => EK TI e.1) (xs := Tn) (S := fun (a : Rat) (j : Option D × Option D) => tS n ds w told j.1 Tn [j'.1, j'.2.a, j.2, j'.2.c, some (RD a), j'.2.e, j'.2.f, j'.2.g, j'.2.h, none])
    (fun i a => G n (i * Bd n) a) (pick (allC told)) (a := 0) (j := (some (TI (told.map fun _ => 1)), j'.2.b)) (av_keys (ev_var rfl)) (G.zero _ _) fun i a e j hi hI he => by
      have hv := M.ent _ he
      have hg := getT_mem M.nd he
      have b1 : i * Bd n ≤ 256 * 2 ^ 20 := Nat.mul_le_mul (by omega) (by omega)
      refine ⟨?_, _, (some (TI e.1.2), some (TI e.1.1)), rfl, c4_ok TVt h4 (by omega) (by omega) hg hv.1 hI hv.2.q _ _ _ _ _ _ _ _⟩
      unfold pick
      split
      · rw [Nat.add_mul, Nat.one_mul]; exact hI.add hv.1
      · exact hI.up (Nat.mul_le_mul_right _ (by omega))
  obtain ⟨_, j2, L2⟩ := L2
  rw [fold_pick, Rat.zero_add] at L2
  exact fv_rt (rt_seq (nx_ex (ev_call (av_cons (ev_var rfl) (av_cons (ev_var rfl) av_nil)) (fv_need_weighted V W h1 h4))) (rt_seq (nx_ex (ev_call (av_cons (ev_var rfl) (av_cons (ev_var rfl) av_nil)) (fv_need_told V TVt h1 h4)))
    (rt_seq (nx_par (av_cons (ev_un (ev_var rfl) (y := .int n) (by rw [oLen_TI, V.len])) (av_cons (ev_call (av_cons (ev_var rfl) (av_cons (ev_var rfl) av_nil)) (fv_begins TVt)) av_nil))) (rt_seq (nx_set d1) (rt_seq L1 (rt_seq (nx_set ev_R0) (rt_seq L2 (rt_seq1 (rt_ret (ev_var rfl)))))))))) 
end
end PL
end
section
set_option Elab.async false
set_option autoImplicit false
set_option linter.all false
set_option maxRecDepth 100000
set_option maxHeartbeats 1000000
/-! W7: handing_chances_by. -/
namespace PL
abbrev hKey : Ex := (eTup (aCons (eUn oTuple (eUn oSorted (eLst (aStar (eVar 7) (aCons (eVar 11) aNil))))) (aCons (eBin oAdd (eVar 8) (eIf (tB (eBin oEq (eVar 11) (eVar 10))) (eC (.int 1)) (eC (.int 0)))) aNil)))
abbrev hBy : Ex := eCall F_by (aCons (eBin oGet (eVar 4) (eTup (aCons (eVar 7) (aCons (eVar 8) aNil)))) (aCons (eCall F_ratio (aCons (eBin oIx (eVar 1) (eVar 11)) (aCons (eVar 9) aNil))) aNil))
abbrev hPl : Ex := eCall F_plus (aCons (eGet3 (eVar 6) (eVar 12) (eTup (aCons (eC (.int 0)) (aCons (eC (.int 1)) aNil)))) (aCons (eVar 13) aNil))
abbrev h3 : Sm := (sSeq (sIf (tB (eBin oNotIn (eVar 11) (eVar 7))) (sSeq (sSet 12 hKey) (sSeq (sSet 13 hBy) (sSeq (sPut 6 (eVar 12) hPl) sNil))) sNil) sNil)
abbrev h2 : Sm := (sSeq (sSet 9 (eCall F_left_weight (aCons (eVar 1) (aCons (eVar 7) aNil)))) (sSeq (sSet 10 (eCall F_holder_of (aCons (eVar 0) (aCons (eVar 7) (aCons (eVar 2) aNil))))) (sSeq (sFor (gVar 11) (wRange (eVar 3)) h3) sNil)))
abbrev h1 : Sm := (sSeq (sSet 6 eDict0) (sSeq (sFor (gTup [(gVar 7), (gVar 8)]) (wKeys (eVar 4)) h2) (sSeq (sSet 4 (eVar 6)) sNil)))
def nxH (ds : List Int) (P : Int) (gone : List Int) (p : Int) (m : Int) : Option Int := some (m + if (p == holder ds gone P) = true then 1 else 0)
/-- the slots: 0 to 4, then l -/
def hS (n : Nat) (ds w : List Int) (P : Int) (T : Tb Int) (l : Sl) : Sl := some (TI ds) :: some (TI w) :: some (.int P) :: some (.int n) :: some (ET D.int T) :: l
abbrev QT : Int → Prop := fun _ => True
theorem keyEvI {s : Sl} {a b : Ex} {K : Ky Int} (ha : Ev a s (TI K.1)) (hb : Ev b s (.int K.2)) : Ev (eTup (aCons a (aCons b aNil))) s (EK D.int K) := ev_tup (av_cons ha (av_cons hb av_nil)) (by simp)
section
variable {n k B L Bk : Nat} {ds w : List Int} {P : Int} {T more : Tb Int} {K : Ky Int} {v : Rat} {p : Int} {j5 j14 : Option D}
theorem h3_ok (W : WV n w) (h4 : n ≤ 4) (hk : k < 4) (hB : B ≤ 2 ^ 30) (hL : L ≤ 900) (hBk : Bk ≤ 2 ^ 30) (M : MOk n (k + 1) B L QT more) (hK : KOk n k QT K) (hg : getT T K = some v) (hv : G k Bk v) (hp : p ∈ ran n) (j12 j13 : Option D) :
    ∃ i12 i13, Nx h3 (hS n ds w P T [j5, some (ET D.int more), some (TI K.1), some (.int K.2), some (.int (left w K.1)), some (.int (holder ds K.1 P)), some (.int p), j12, j13, j14])
      (hS n ds w P T [j5, some (ET D.int (put1 (nxH ds P) w K v more p)), some (TI K.1), some (.int K.2), some (.int (left w K.1)), some (.int (holder ds K.1 P)), some (.int p), i12, i13, j14]) := by
  have t1 : Tv (tB (eBin oNotIn (eVar 11) (eVar 7))) (hS n ds w P T [j5, some (ET D.int more), some (TI K.1), some (.int K.2), some (.int (left w K.1)), some (.int (holder ds K.1 P)), some (.int p), j12, j13, j14]) (!has K.1 p) := tv_b (ev_bin (ev_var rfl) (ev_var rfl) (oNotIn_TI _ _))
  unfold put1
  cases hh : has K.1 p with
  | true =>
    rw [hh] at t1
    rw [if_pos rfl]
    exact ⟨j12, j13, nx_seq (nx_if (k := false) t1 (fun q => by cases q) fun _ => nx_nil) nx_nil⟩
  | false =>
    rw [hh] at t1
    rw [if_neg (by decide)]
    obtain ⟨l1, l2, l3⟩ := left_rng (gone := K.1) W h4
    unfold nxH
    dsimp only
    generalize hs : (isort (K.1 ++ [p]), K.2 + if (p == holder ds K.1 P) = true then 1 else 0) = K'
    have ky : Ev hKey (hS n ds w P T [j5, some (ET D.int more), some (TI K.1), some (.int K.2), some (.int (left w K.1)), some (.int (holder ds K.1 P)), some (.int p), j12, j13, j14]) (EK D.int K') := by
      rw [← hs]
      refine keyEvI (K := (isort (K.1 ++ [p]), K.2 + if (p == holder ds K.1 P) = true then 1 else 0)) (ev_lot (ev_var rfl) (ev_var rfl) (by rw [hK.len]; omega)) (ev_bin (ev_var rfl) (y := .int (if (p == holder ds K.1 P) = true then 1 else 0)) ?_ (oAdd_int _ _))
      exact ev_if (tv_b (ev_bin (ev_var rfl) (ev_var rfl) (oEq_int _ _))) (fun q => by rw [if_pos q]; exact ev_c) fun q => by rw [if_neg (by rw [q]; decide)]; exact ev_c
    have wv : Wd v := hv.wd (by omega) (by omega)
    have hw1 := (W.nth hp).1
    have hw2 := l3 p hp hh
    have part := hv.byI hw1 hw2 l2
    obtain ⟨p1, p2⟩ := mem_ran.mp hp
    have by' : Ev hBy (hS n ds w P T [j5, some (ET D.int more), some (TI K.1), some (.int K.2), some (.int (left w K.1)), some (.int (holder ds K.1 P)), some (.int p), some (EK D.int K'), j13, j14]) (RD (v * mkRat (nth w p) (left w K.1).toNat)) :=
      ev_call (av_cons (ev_get encI (K := K) (ev_var rfl) (keyEvI (K := K) (ev_var rfl) (ev_var rfl)) hg) (av_cons (ev_call (av_cons (ev_bin (ev_var rfl) (ev_var rfl) (oIx_TI p1 (by rw [W.len]; exact p2))) (av_cons (ev_var rfl) av_nil)) (fv_ratioI hw1 hw2 l2)) av_nil)) (fv_by wv (wd_mkI hw1 hw2 l2))
    have wo : Wd ((getT more K').getD 0) := M.get.wd (by omega) (by omega)
    have pl : Ev hPl (hS n ds w P T [j5, some (ET D.int more), some (TI K.1), some (.int K.2), some (.int (left w K.1)), some (.int (holder ds K.1 P)), some (.int p), some (EK D.int K'), some (RD (v * mkRat (nth w p) (left w K.1).toNat)), j14]) (RD ((getT more K').getD 0 + v * mkRat (nth w p) (left w K.1).toNat)) :=
      ev_call (av_cons (ev_get3 encI (T := more) (K := K') (ev_var rfl) (ev_var rfl) ev_R0) (av_cons (ev_var rfl) av_nil)) (fv_plus wo (part.wd (by omega) (by omega)))
    have put : Nx (sPut 6 (eVar 12) hPl) (hS n ds w P T [j5, some (ET D.int more), some (TI K.1), some (.int K.2), some (.int (left w K.1)), some (.int (holder ds K.1 P)), some (.int p), some (EK D.int K'), some (RD (v * mkRat (nth w p) (left w K.1).toNat)), j14])
        (hS n ds w P T [j5, some (ET D.int (addT more K' (v * mkRat (nth w p) (left w K.1).toNat))), some (TI K.1), some (.int K.2), some (.int (left w K.1)), some (.int (holder ds K.1 P)), some (.int p), some (EK D.int K'), some (RD (v * mkRat (nth w p) (left w K.1).toNat)), j14]) :=
      nx_put encI (T := more) (K := K') pl (ev_var rfl) (by have := M.len; omega)
    exact ⟨_, _, nx_seq (nx_if (k := true) t1 (fun _ => nx_seq (nx_set ky) (nx_seq (nx_set by') (nx_seq put nx_nil))) fun q => by cases q) nx_nil⟩
theorem h2_ok (V : Val n ds) (hP : P ∈ ran n) (W : WV n w) (h4 : n ≤ 4) (hk : k < 4) (hB : B ≤ 2 ^ 29) (hL : L ≤ 890) (hBk : Bk ≤ 2 ^ 26) (M : MOk n (k + 1) B L QT more) (hK : KOk n k QT K) (hg : getT T K = some v) (hv : G k Bk v) (j9 j10 j11 j12 j13 : Option D) :
    MOk n (k + 1) (B + 4 * Bk) (L + 4) QT (row1 n (nxH ds P) w more (K, v)) ∧ ∃ i9 i10 i11 i12 i13, Nx h2 (hS n ds w P T [j5, some (ET D.int more), some (TI K.1), some (.int K.2), j9, j10, j11, j12, j13, j14])
      (hS n ds w P T [j5, some (ET D.int (row1 n (nxH ds P) w more (K, v))), some (TI K.1), some (.int K.2), i9, i10, i11, i12, i13, j14]) := by
  have s1 : Nx (sSet 9 (eCall F_left_weight (aCons (eVar 1) (aCons (eVar 7) aNil)))) (hS n ds w P T [j5, some (ET D.int more), some (TI K.1), some (.int K.2), j9, j10, j11, j12, j13, j14]) (hS n ds w P T [j5, some (ET D.int more), some (TI K.1), some (.int K.2), some (.int (left w K.1)), j10, j11, j12, j13, j14]) :=
    nx_set (ev_call (av_cons (ev_var rfl) (av_cons (ev_var rfl) av_nil)) (fv_left W h4))
  have s2 : Nx (sSet 10 (eCall F_holder_of (aCons (eVar 0) (aCons (eVar 7) (aCons (eVar 2) aNil))))) (hS n ds w P T [j5, some (ET D.int more), some (TI K.1), some (.int K.2), some (.int (left w K.1)), j10, j11, j12, j13, j14]) (hS n ds w P T [j5, some (ET D.int more), some (TI K.1), some (.int K.2), some (.int (left w K.1)), some (.int (holder ds K.1 P)), j11, j12, j13, j14]) :=
    nx_set (ev_call (av_cons (ev_var rfl) (av_cons (ev_var rfl) (av_cons (ev_var rfl) av_nil))) (fv_holder V (stops_of V) (by omega) hP))
  obtain ⟨I, j', L2⟩ := nx_fori (g := gVar 11) (b := h3) (w := wRange (eVar 3)) (enc := D.int) (xs := ran n) (S := fun (a : Tb Int) (j : Option D × Option D × Option D) => hS n ds w P T [j5, some (ET D.int a), some (TI K.1), some (.int K.2), some (.int (left w K.1)), some (.int (holder ds K.1 P)), j.1, j.2.1, j.2.2, j14])
    (fun i a => MOk n (k + 1) (B + i * Bk) (L + i) QT a) (put1 (nxH ds P) w K v) (a := more) (j := (j11, j12, j13)) (av_range (n := n) (ev_var rfl) (by omega)) (M.up (by omega) (by omega)) fun i a x j hi hI hx => by
      rw [ran_length] at hi
      have hib : i * Bk ≤ 4 * Bk := Nat.mul_le_mul_right _ (by omega)
      have e := put1_ok (next := nxH ds P) W h4 hI hK hv hx fun _ _ _ => trivial
      obtain ⟨i12, i13, N⟩ := h3_ok (j5 := j5) (j14 := j14) (ds := ds) (P := P) W h4 hk (by omega) (by omega) (by omega) hI hK hg hv hx j.2.1 j.2.2
      exact ⟨e.up (by rw [Nat.add_mul, Nat.one_mul, Nat.add_assoc]; exact Nat.le_refl _) (by omega), _, (some (.int x), i12, i13), rfl, N⟩
  rw [ran_length] at I
  exact ⟨I.up (Nat.add_le_add_left (Nat.mul_le_mul_right _ h4) _) (by omega), _, _, _, _, _, nx_seq s1 (nx_seq s2 (nx_seq L2 nx_nil))⟩
theorem h1_ok (V : Val n ds) (hP : P ∈ ran n) (W : WV n w) (h4 : n ≤ 4) (hk : k < 4) (M : MOk n k (Bd k) (4 ^ k) QT T) (j : J9) :
    MOk n (k + 1) (Bd (k + 1)) (4 ^ (k + 1)) QT (lvl n (nxH ds P) w T) ∧ ∃ i : J9, Nx h1 (hS n ds w P T [j5, j.a, j.b, j.c, j.d, j.e, j.f, j.g, j.h, j14])
      (hS n ds w P (lvl n (nxH ds P) w T) [j5, i.a, i.b, i.c, i.d, i.e, i.f, i.g, i.h, j14]) := by
  have hb := Bd_le k (by omega)
  have hl := M.len
  have hp := pw_le k (by omega)
  obtain ⟨I, j', L2⟩ := nx_fori (g := gTup [(gVar 7), (gVar 8)]) (b := h2) (w := wKeys (eVar 4)) (enc := fun e : Ky Int × Rat => EK D.int e.1) (xs := T) (S := fun (a : Tb Int) (j : J9) => hS n ds w P T [j5, some (ET D.int a), j.b, j.c, j.d, j.e, j.f, j.g, j.h, j14])
    (fun i a => MOk n (k + 1) (i * (4 * Bd k)) (i * 4) QT a) (row1 n (nxH ds P) w) (a := []) (j := j) (av_keys (ev_var rfl)) MOk.empty fun i a e j hi hI he => by
      obtain ⟨K, v⟩ := e
      have hv := M.ent _ he
      have hg := getT_mem M.nd he
      have h64 : T.length ≤ 64 := Nat.le_trans hl (Nat.pow_le_pow_right (n := 4) (by decide) (show k ≤ 3 by omega))
      have b1 : i * (4 * Bd k) ≤ 64 * (4 * 2 ^ 20) := Nat.mul_le_mul (by omega) (by omega)
      obtain ⟨M', i9, i10, i11, i12, i13, N⟩ := h2_ok (j5 := j5) (j14 := j14) V hP W h4 hk (by omega) (by omega) (by omega) hI hv.2 hg hv.1 j.d j.e j.f j.g j.h
      exact ⟨M'.up (by rw [Nat.add_mul, Nat.one_mul]; exact Nat.le_refl _) (by omega), _, ⟨none, some (TI K.1), some (.int K.2), i9, i10, i11, i12, i13⟩, rfl, N⟩
  refine ⟨I.up ?_ ?_, ⟨some (ET D.int (lvl n (nxH ds P) w T)), j'.b, j'.c, j'.d, j'.e, j'.f, j'.g, j'.h⟩, nx_seq (nx_set ev_dict0) (nx_seq L2 (nx_seq (nx_set (v := ET D.int (lvl n (nxH ds P) w T)) (ev_var rfl)) nx_nil))⟩
  · show T.length * (4 * Bd k) ≤ 4 ^ k * 4 * Bd k
    rw [Nat.mul_assoc]
    exact Nat.mul_le_mul_right _ hl
  · rw [Nat.pow_succ]
    exact Nat.mul_le_mul_right _ hl
theorem sgO_hand (V : Val n ds) (hP : P ∈ ran n) : ∀ k : Nat, ∀ o ∈ pth n k, sgO (nxH ds P) 0 o = some (((traceL ds o P).length : Int) - 1)
  | 0, o, ho => by
    have : o = [] := by simpa [pth] using ho
    subst this
    rfl
  | k + 1, o, ho => by
    have hr := (pth_ok n (List.replicate n 1) (by simp) (k + 1) o ho).2.2.1
    obtain ⟨o', ho', h⟩ := List.mem_flatMap.mp ho
    obtain ⟨p, hp, rfl⟩ := List.mem_map.mp h
    have hp2 : has o' p = false := by simpa using (List.mem_filter.mp hp).2
    rw [sgO_snoc, sgO_hand V hP k o' ho', trace_more V hr hP hp2]
    show some _ = some _
    rw [holder_congr (lot_has o') P]
    congr 1
    omega
def atR (ds w : List Int) (P j : Int) (o : List Int) : Rat := if ((traceL ds o P).length : Int) - 1 = j then chO w o else 0
theorem hand_sum (V : Val n ds) (hP : P ∈ ran n) (W : WV n w) (hn1 : 1 ≤ n) (h4 : n ≤ 4) (hnd : ((tbl n (nxH ds P) w 0 n).map (·.1)).Nodup) (j : Int) : (getT (tbl n (nxH ds P) w 0 n) (ran n, j)).getD 0 = sumR ((perms n).map (atR ds w P j)) := by
  rw [← lin_get hnd, lin_tbl n (nxH ds P) w W.len, pth_perms hn1 h4]
  congr 1
  refine List.map_congr_left fun o ho => ?_
  have hl := lot_perms hn1 h4 ho
  rw [← pth_perms hn1 h4] at ho
  unfold val atR
  rw [sgO_hand V hP n o ho, hl]
  dsimp only
  by_cases q : ((traceL ds o P).length : Int) - 1 = j
  · rw [if_pos q, if_pos (by rw [q]), Rat.one_mul]
  · rw [if_neg q, if_neg (fun e => q (congrArg (·.2) e)), Rat.zero_mul]
theorem fv_hand (V : DVal n ds) (hP : P ∈ ran n) (W : WV n w) (hn1 : 1 ≤ n) (h4 : n ≤ 4) : Fv F_handing_chances_by [TI ds, TI w, .int P] (.tup ((ran ((chain ds P).length + 1)).map fun j => RD (sumR ((perms n).map (atR ds w P j))))) := by
  have L1 := nx_fori (g := gVar 5) (b := h1) (w := wRange (eVar 3)) (enc := D.int) (xs := ran n) (S := fun (a : Tb Int) (j : Option D × J9) => hS n ds w P a [j.1, j.2.a, j.2.b, j.2.c, j.2.d, j.2.e, j.2.f, j.2.g, j.2.h, none])
    (fun i a => MOk n i (Bd i) (4 ^ i) QT a ∧ a = tbl n (nxH ds P) w 0 i) (fun a _ => lvl n (nxH ds P) w a) (a := [(([], 0), 1)]) (j := (none, ⟨none, none, none, none, none, none, none, none⟩)) (av_range (n := n) (ev_var rfl) (by omega)) ⟨MOk.base trivial, rfl⟩ fun i a x j hi hI hx => by
      rw [ran_length] at hi
      obtain ⟨M, e⟩ := hI
      obtain ⟨M', i9, N⟩ := h1_ok (j5 := some (.int x)) (j14 := none) V.toVal hP W h4 (by omega) M j.2
      exact ⟨⟨M', by rw [e]; rfl⟩, _, (some (.int x), i9), rfl, N⟩
  obtain ⟨⟨M, e⟩, j', L1⟩ := L1
  rw [ran_length] at M e
  rw [e] at M L1
  have hs := hand_sum V.toVal hP W hn1 h4 M.nd
  generalize htb : tbl n (nxH ds P) w 0 n = Tn at *
  have hcl := chain_len V.toVal hP
  have s14 : Ev (eUn oLen (eCall F_chain_of (aCons (eVar 0) (aCons (eVar 2) aNil)))) (hS n ds w P Tn [j'.1, j'.2.a, j'.2.b, j'.2.c, j'.2.d, j'.2.e, j'.2.f, j'.2.g, j'.2.h, none]) (.int (chain ds P).length) :=
    ev_un (ev_call (av_cons (ev_var rfl) (av_cons (ev_var rfl) av_nil)) (fv_chain V.toVal (stops_of V.toVal) (by omega) hP)) (oLen_LI _)
  have c := ev_comp' (vs := [8]) (w := wRange (eBin oAdd (eVar 14) (eC (.int 1)))) (tg := gVar 8) (e := eGet3 (eVar 4) (eTup (aCons (eUn oTupRg (eVar 3)) (aCons (eVar 8) aNil))) (eTup (aCons (eC (.int 0)) (aCons (eC (.int 1)) aNil)))) (s := hS n ds w P Tn [j'.1, j'.2.a, j'.2.b, j'.2.c, j'.2.d, j'.2.e, j'.2.f, j'.2.g, j'.2.h, some (.int (chain ds P).length)])
    (enc := D.int) (xs := ran ((chain ds P).length + 1)) (F := fun j => RD ((getT Tn (ran n, j)).getD 0)) (st := fun j => hS n ds w P Tn [j'.1, j'.2.a, j'.2.b, some (.int j), j'.2.d, j'.2.e, j'.2.f, j'.2.g, j'.2.h, some (.int (chain ds P).length)])
    (av_range (n := (chain ds P).length + 1) (ev_bin (ev_var rfl) ev_c rfl) (by omega)) (by rw [ran_length]; omega) fun j hj => ⟨rfl, ev_get3 encI (K := (ran n, j)) (ev_var rfl) (keyEvI (K := (ran n, j)) (ev_un (ev_var rfl) (oTupRg_n (by omega))) (ev_var rfl)) ev_R0⟩
  have ef : (ran ((chain ds P).length + 1)).map (fun j => RD (sumR ((perms n).map (atR ds w P j)))) = (ran ((chain ds P).length + 1)).map fun j => RD ((getT Tn (ran n, j)).getD 0) := List.map_congr_left fun j _ => by rw [hs]
  rw [ef]
  exact fv_rt (rt_seq (nx_ex (ev_call (av_cons (ev_var rfl) (av_cons (ev_var rfl) av_nil)) (fv_need_weighted V W hn1 h4))) (rt_seq (nx_ex (ev_call (av_cons (ev_var rfl) (av_cons (ev_var rfl) av_nil)) (fv_need_person V.toVal hP)))
    (rt_seq (nx_par (av_cons (ev_un (ev_var rfl) (y := .int n) (by rw [oLen_TI, V.len])) (av_cons (ev_dict1 encI (K := ([], 0)) (keyEvI (K := ([], 0)) (ev_tup av_nil (by simp)) ev_c) ev_R1) av_nil))) (rt_seq L1 (rt_seq (nx_set s14) (rt_seq1 (rt_ret (ev_un c rfl))))))))
end
end PL
end
section
set_option Elab.async false
set_option autoImplicit false
set_option linter.all false
set_option maxRecDepth 100000
set_option maxHeartbeats 1000000
/-! L9: pieces that draw. -/
namespace PL
abbrev Er (e : Ex) (s : Sl) (P : D → Prop) : Prop := ∀ r, ∃ v r', e s r = some (v, r') ∧ P v
abbrev Arr (a : Ar) (s : Sl) (P : List D → Prop) : Prop := ∀ r, ∃ v r', a s r = some (v, r') ∧ P v
abbrev Fr (f : Fn) (ds : List D) (P : D → Prop) : Prop := ∀ r, ∃ v r', f ds r = some (v, r') ∧ P v
abbrev Tr2 (t : Te) (s : Sl) : Prop := ∀ r, ∃ k r', t s r = some (k, r')
abbrev Nr (b : Sm) (s : Sl) (P : Sl → Prop) : Prop := ∀ r, ∃ s' r', b s r = some (.nx s' r') ∧ P s'
abbrev Rr (b : Sm) (s : Sl) (P : D → Prop) : Prop := ∀ r, ∃ v r', b s r = some (.rt v r') ∧ P v
section
variable {s s' : Sl} {v x y z : D} {e a b c : Ex} {t : Te} {as : Ar} {P Q : D → Prop} {R : List D → Prop} {S S' : Sl → Prop} {m m2 : Sm} {f : Fn} {i : Nat}
theorem er_ev (h : Ev e s v) : Er e s (fun x => x = v) := fun r => ⟨v, r, h r, rfl⟩
theorem er_mono (h : Er e s P) (hp : ∀ x, P x → Q x) : Er e s Q := fun r => by
  obtain ⟨v, r', e1, e2⟩ := h r
  exact ⟨v, r', e1, hp v e2⟩
theorem er_un {o : D → Option D} (h : Er e s P) (ho : ∀ x, P x → ∃ y, o x = some y ∧ Q y) : Er (eUn o e) s Q := fun r => by
  obtain ⟨v, r', e1, e2⟩ := h r
  obtain ⟨y, e3, e4⟩ := ho v e2
  exact ⟨y, r', by unfold eUn; rw [e1]; dsimp only; rw [e3], e4⟩
theorem er_binL {o : D → D → Option D} (h : Er a s P) (hb : Ev b s y) (ho : ∀ x, P x → ∃ z, o x y = some z ∧ Q z) : Er (eBin o a b) s Q := fun r => by
  obtain ⟨v, r', e1, e2⟩ := h r
  obtain ⟨z, e3, e4⟩ := ho v e2
  exact ⟨z, r', by unfold eBin; rw [e1]; dsimp only; rw [hb r']; dsimp only; rw [e3], e4⟩
theorem er_binR {o : D → D → Option D} (ha : Ev a s x) (h : Er b s P) (ho : ∀ y, P y → ∃ z, o x y = some z ∧ Q z) : Er (eBin o a b) s Q := fun r => by
  obtain ⟨v, r', e1, e2⟩ := h r
  obtain ⟨z, e3, e4⟩ := ho v e2
  exact ⟨z, r', by unfold eBin; rw [ha r]; dsimp only; rw [e1]; dsimp only; rw [e3], e4⟩
theorem er_call {xs : List D} (h : Av as s xs) (hf : Fr f xs P) : Er (eCall f as) s P := fun r => by
  obtain ⟨v, r', e1, e2⟩ := hf r
  exact ⟨v, r', by unfold eCall; rw [h r]; exact e1, e2⟩
theorem ar_nil : Arr aNil s (fun xs => xs = []) := fun r => ⟨[], r, rfl, rfl⟩
theorem ar_cons (ha : Er a s P) (h : Arr as s R) : Arr (aCons a as) s (fun xs => ∃ x ys, xs = x :: ys ∧ P x ∧ R ys) := fun r => by
  obtain ⟨v, r1, e1, e2⟩ := ha r
  obtain ⟨ys, r2, e3, e4⟩ := h r1
  exact ⟨v :: ys, r2, by unfold aCons; rw [e1]; dsimp only; rw [e3], v, ys, rfl, e2, e4⟩
theorem nr_nx (h : Nx m s s') (hs : S s') : Nr m s S := fun r => ⟨s', r, h r, hs⟩
theorem nr_set (h : Er e s P) (hs : ∀ v, P v → S (s.set i (some v))) : Nr (sSet i e) s S := fun r => by
  obtain ⟨v, r', e1, e2⟩ := h r
  exact ⟨_, r', by unfold sSet; rw [e1], hs v e2⟩
theorem nr_par {is : List Nat} (h : Arr as s R) (hs : ∀ xs, R xs → ∃ s1, setAll is xs s = some s1 ∧ S s1) : Nr (sPar is as) s S := fun r => by
  obtain ⟨xs, r', e1, e2⟩ := h r
  obtain ⟨s1, e3, e4⟩ := hs xs e2
  exact ⟨s1, r', by unfold sPar; rw [e1]; dsimp only; rw [e3], e4⟩
theorem nr_seq (h1 : Nr m s S) (h2 : ∀ s1, S s1 → Nr m2 s1 S') : Nr (sSeq m m2) s S' := fun r => by
  obtain ⟨s1, r1, e1, e2⟩ := h1 r
  obtain ⟨s2, r2, e3, e4⟩ := h2 s1 e2 r1
  exact ⟨s2, r2, by unfold sSeq; rw [e1]; exact e3, e4⟩
theorem rr_seq (h1 : Nr m s S) (h2 : ∀ s1, S s1 → Rr m2 s1 P) : Rr (sSeq m m2) s P := fun r => by
  obtain ⟨s1, r1, e1, e2⟩ := h1 r
  obtain ⟨s2, r2, e3, e4⟩ := h2 s1 e2 r1
  exact ⟨s2, r2, by unfold sSeq; rw [e1]; exact e3, e4⟩
theorem rr_nx (h1 : Nx m s s') (h2 : Rr m2 s' P) : Rr (sSeq m m2) s P := fun r => by
  obtain ⟨v, r', e1, e2⟩ := h2 r
  exact ⟨v, r', by unfold sSeq; rw [h1 r]; exact e1, e2⟩
theorem rr_rt (h : Rt m s v) (hp : P v) : Rr (sSeq m m2) s P := fun r => ⟨v, r, by unfold sSeq; rw [h r], hp⟩
theorem tr_b {t : Ex} (h : Er t s (fun v => ∃ k, v = .bl k)) : Tr2 (tB t) s := fun r => by
  obtain ⟨v, r', e1, k, rfl⟩ := h r
  exact ⟨k, r', by unfold tB; rw [e1]⟩
theorem nr_if (h : Tr2 t s) (h1 : Nr m s S) (h2 : Nr m2 s S) : Nr (sIf t m m2) s S := fun r => by
  obtain ⟨k, r1, e⟩ := h r
  cases k with
  | true =>
    obtain ⟨s', r', e1, e2⟩ := h1 r1
    exact ⟨s', r', by unfold sIf; rw [e]; exact e1, e2⟩
  | false =>
    obtain ⟨s', r', e1, e2⟩ := h2 r1
    exact ⟨s', r', by unfold sIf; rw [e]; exact e1, e2⟩
theorem nr_app {ds : List D} (h : Er e s P) (hi : s[i]? = some (some (.lst ds))) (hl : ds.length < 1000) (hs : ∀ v, P v → S (s.set i (some (.lst (ds ++ [v]))))) : Nr (sApp i e) s S := fun r => by
  obtain ⟨v, r', e1, e2⟩ := h r
  exact ⟨_, r', by unfold sApp; rw [hi]; dsimp only; rw [e1]; dsimp only; rw [if_pos hl], hs v e2⟩
theorem fr_rt {np n : Nat} {ds : List D} (h : Rr m (ds.map some ++ List.replicate (n - np) none) P) (hl : ds.length = np := by rfl) : Fr (runFn np n m) ds P := fun r => by
  obtain ⟨v, r', e1, e2⟩ := h r
  exact ⟨v, r', by unfold runFn; rw [if_pos hl, e1], e2⟩
end
/-! ### loops -/
theorem forL_p {α : Type} {enc : α → D} {g : Tg} {b : Sm} (Inv : List α → Sl → Prop) (all : List α) (h : ∀ done x rest s, done ++ x :: rest = all → Inv done s → ∃ s1, g (enc x) s = some s1 ∧ Nr b s1 (Inv (done ++ [x]))) :
    ∀ (xs done : List α) (s : Sl), done ++ xs = all → Inv done s → ∀ r, ∃ s' r', forL g b (xs.map enc) s r = some (.nx s' r') ∧ Inv all s'
  | [], done, s, e, hI, r => ⟨s, r, rfl, by rw [← e, List.append_nil]; exact hI⟩
  | x :: xs, done, s, e, hI, r => by
    obtain ⟨s1, e1, e2⟩ := h done x xs s e hI
    obtain ⟨s2, r2, e3, e4⟩ := e2 r
    obtain ⟨s3, r3, e5, e6⟩ := forL_p Inv all h xs (done ++ [x]) s2 (by rw [List.append_assoc]; exact e) e4 r2
    refine ⟨s3, r3, ?_, e6⟩
    rw [List.map_cons]
    unfold forL
    rw [e1]
    dsimp only
    rw [e3]
    exact e5
theorem nr_for {α : Type} {enc : α → D} {g : Tg} {b : Sm} {w : Ar} {s : Sl} {xs : List α} (Inv : List α → Sl → Prop) (hw : Av w s (xs.map enc)) (h0 : Inv [] s) (h : ∀ done x rest s, done ++ x :: rest = xs → Inv done s → ∃ s1, g (enc x) s = some s1 ∧ Nr b s1 (Inv (done ++ [x]))) : Nr (sFor g w b) s (Inv xs) := fun r => by
  obtain ⟨s', r', e1, e2⟩ := forL_p Inv xs h xs [] s rfl h0 r
  exact ⟨s', r', by unfold sFor; rw [hw r]; exact e1, e2⟩
theorem forL_np {α J : Type} {enc : α → D} {g : Tg} {b : Sm} {S : List α → J → Sl} (all : List α) (h : ∀ done x rest j, done ++ x :: rest = all → ∃ s1 j', g (enc x) (S done j) = some s1 ∧ Nx b s1 (S (done ++ [x]) j')) :
    ∀ (xs done : List α) (j : J), done ++ xs = all → ∃ j', ∀ r, forL g b (xs.map enc) (S done j) r = some (.nx (S all j') r)
  | [], done, j, e => ⟨j, fun r => by rw [← e, List.append_nil]; rfl⟩
  | x :: xs, done, j, e => by
    obtain ⟨s1, j1, e1, e2⟩ := h done x xs j e
    obtain ⟨j2, e3⟩ := forL_np all h xs (done ++ [x]) j1 (by rw [List.append_assoc]; exact e)
    refine ⟨j2, fun r => ?_⟩
    rw [List.map_cons]
    unfold forL
    rw [e1]
    dsimp only
    rw [e2 r]
    exact e3 r
/-- a loop whose slots are told by what is done -/
theorem nx_forp {α J : Type} {enc : α → D} {g : Tg} {b : Sm} {w : Ar} {xs : List α} {S : List α → J → Sl} {j : J} (hw : Av w (S [] j) (xs.map enc)) (h : ∀ done x rest j, done ++ x :: rest = xs → ∃ s1 j', g (enc x) (S done j) = some s1 ∧ Nx b s1 (S (done ++ [x]) j')) : ∃ j', Nx (sFor g w b) (S [] j) (S xs j') := by
  obtain ⟨j', e⟩ := forL_np xs h xs [] j rfl
  exact ⟨j', fun r => by unfold sFor; rw [hw r]; exact e r⟩
theorem ran_split {n : Nat} {done rest : List Int} {x : Int} (h : done ++ x :: rest = ran n) : x = (done.length : Int) ∧ done.length < n ∧ done = ran done.length := by
  have hl := congrArg List.length h
  rw [ran_length, List.length_append, List.length_cons] at hl
  have hlt : done.length < n := by omega
  have e1 : (done ++ x :: rest)[done.length]? = (ran n)[done.length]? := by rw [h]
  rw [List.getElem?_append_right (Nat.le_refl _), Nat.sub_self, List.getElem?_cons_zero] at e1
  unfold ran at e1
  rw [List.getElem?_map, List.getElem?_range hlt] at e1
  refine ⟨Option.some.inj e1, hlt, ?_⟩
  have e2 : (done ++ x :: rest).take done.length = (ran n).take done.length := by rw [h]
  rw [List.take_append_of_le_length (Nat.le_refl _), List.take_length] at e2
  rw [e2]
  have : (ran n).take done.length = ran done.length := by
    unfold ran
    rw [← List.map_take, List.take_range, Nat.min_eq_left (by omega)]
  rw [this, ran_length]
/-! ### a draw -/
theorem take_rng (r : Row) {m : Int} (h : 0 < m) : 0 ≤ (take r m).1 ∧ (take r m).1 < m := by
  unfold take
  split
  · exact ⟨Int.emod_nonneg _ (by omega), Int.emod_lt_of_pos _ h⟩
  · split
    · exact ⟨Int.emod_nonneg _ (by omega), Int.emod_lt_of_pos _ h⟩
    · exact ⟨Int.emod_nonneg _ (by omega), Int.emod_lt_of_pos _ h⟩
theorem fr_taken {m : Int} (h0 : 0 < m) (h1 : m < 1000) : Fr F_law_taken [.row, .int m] (fun v => ∃ x, v = .int x ∧ 0 ≤ x ∧ x < m) := fun r =>
  ⟨.int (take r m).1, (take r m).2, by show (if 0 < m ∧ m < 1000 then some (D.int (take r m).1, (take r m).2) else none) = _; rw [if_pos ⟨h0, h1⟩], _, rfl, take_rng r h0⟩
theorem er_taken {s : Sl} {i : Nat} {e : Ex} {m : Int} (hi : s[i]? = some (some .row)) (he : Ev e s (.int m)) (h0 : 0 < m) (h1 : m < 1000) : Er (eCall F_law_taken (aCons (eVar i) (aCons e aNil))) s (fun v => ∃ x, v = .int x ∧ 0 ≤ x ∧ x < m) :=
  er_call (av_cons (ev_var hi) (av_cons he av_nil)) (fr_taken h0 h1)
theorem fr_pick {l : List D} (h0 : 0 < l.length) (h1 : l.length < 1000) : Fr F_law_pick [.row, .lst l] (fun v => v ∈ l) := by
  refine fr_rt (P := fun v => v ∈ l) fun r => ?_
  have e := er_binR (o := oIx) (Q := fun v => v ∈ l) (ev_var (i := 1) (v := .lst l) (s := [some .row, some (.lst l)]) rfl) (er_taken (s := [some .row, some (.lst l)]) (i := 0) (e := eUn oLen (eVar 1)) (m := (l.length : Int)) rfl (ev_un (x := .lst l) (ev_var rfl) rfl) (by omega) (by omega)) fun v hv => by
    obtain ⟨x, rfl, h2, h3⟩ := hv
    have hlt : x.toNat < l.length := by omega
    refine ⟨l[x.toNat], ?_, List.getElem_mem hlt⟩
    show (match ixOf l.length x with | some j => l[j]? | none => none) = _
    rw [ixOf_nn h2 h3]
    exact List.getElem?_eq_getElem hlt
  obtain ⟨v, r', e1, e2⟩ := e r
  exact ⟨v, r', by show sSeq (sRet _) sNil _ r = _; unfold sSeq sRet; rw [show ([D.row, D.lst l].map some ++ List.replicate (2 - 2) none) = [some .row, some (.lst l)] from rfl, e1], e2⟩
/-! ### deputies -/
theorem fr_deputies {n : Nat} (h1 : 1 ≤ n) (h4 : n ≤ 4) : Fr F_law_deputies [.row, .int n] (fun v => ∃ l, v = TI l ∧ DVal n l) := by
  refine fr_rt (rr_nx (nx_set (ev_lst av_nil (by decide))) (rr_seq (S := fun s => ∃ l j3 j4, s = [some .row, some (.int n), some (LI l), j3, j4] ∧ DVal n l) ?_ fun s hs => ?_))
  · have L := nr_for (g := gVar 3) (w := wRange (eVar 1)) (b := (sSeq (sSet 4 (eBin oSub (eCall F_law_taken (aCons (eVar 0) (aCons (eVar 1) aNil))) (eC (.int 1)))) (sSeq (sApp 2 (eBin oAdd (eVar 4) (eUn oInt (eBin oGe (eVar 4) (eVar 3))))) sNil)))
      (enc := D.int) (xs := ran n) (s := [some .row, some (.int n), some (LI []), none, none]) (fun done s => ∃ l j3 j4, s = [some .row, some (.int n), some (LI l), j3, j4] ∧ l.length = done.length ∧ (∀ d ∈ l, -1 ≤ d ∧ d < n) ∧ ∀ i : Nat, l[i]? ≠ some (i : Int))
      (av_range (n := n) (ev_var rfl) (by omega)) ⟨[], none, none, rfl, rfl, fun _ h => (by cases h), fun i h => (by cases h)⟩ fun done x rest s hd hs => by
        obtain ⟨l, j3, j4, rfl, hl, hr, hne⟩ := hs
        obtain ⟨hx, hlt, _⟩ := ran_split hd
        refine ⟨[some .row, some (.int n), some (LI l), some (.int x), j4], rfl, ?_⟩
        refine nr_seq (S := fun s => ∃ y, s = [some .row, some (.int n), some (LI l), some (.int x), some (.int y)] ∧ -1 ≤ y ∧ y < (n : Int) - 1) (nr_set (P := fun v => ∃ y, v = .int y ∧ -1 ≤ y ∧ y < (n : Int) - 1) (er_binL (er_taken (m := (n : Int)) rfl (ev_var rfl) (by omega) (by omega)) ev_c fun v hv => ?_) fun v hv => ?_) fun s1 hs1 => ?_
        · obtain ⟨z, rfl, z1, z2⟩ := hv
          exact ⟨_, rfl, z - 1, rfl, by omega, by omega⟩
        · obtain ⟨y, rfl, y1, y2⟩ := hv
          exact ⟨y, rfl, y1, y2⟩
        · obtain ⟨y, rfl, y1, y2⟩ := hs1
          have ev : Ev (eBin oAdd (eVar 4) (eUn oInt (eBin oGe (eVar 4) (eVar 3)))) [some .row, some (.int n), some (LI l), some (.int x), some (.int y)] (.int (y + if (decide (x ≤ y)) = true then 1 else 0)) :=
            ev_bin (ev_var rfl) (ev_un (ev_bin (ev_var rfl) (ev_var rfl) (z := .bl (decide (x ≤ y))) rfl) (y := .int (if (decide (x ≤ y)) = true then 1 else 0)) rfl) (oAdd_int _ _)
          refine nr_nx (nx_seq (nx_appI (l := l) ev (by omega)) nx_nil) ⟨_, some (.int x), some (.int y), rfl, by simp [hl], fun d hd => ?_, fun i hi => ?_⟩
          · rcases List.mem_append.mp hd with q | q
            · exact hr d q
            · rw [List.mem_singleton.mp q]
              split <;> omega
          · by_cases q : i < l.length
            · rw [List.getElem?_append_left q] at hi
              exact hne i hi
            · rw [List.getElem?_append_right (by omega)] at hi
              have h0 : i - l.length = 0 := by
                obtain ⟨z, _⟩ := List.getElem?_eq_some_iff.mp hi
                simp at z
                omega
              rw [h0, List.getElem?_cons_zero] at hi
              have hi := Option.some.inj hi
              have hxi : x = (i : Int) := by omega
              by_cases c : x ≤ y
              · rw [if_pos (by simpa using c)] at hi; omega
              · rw [if_neg (by simpa using c)] at hi; omega
    intro r
    obtain ⟨s', r', e1, l, j3, j4, rfl, hl, hr, hne⟩ := L r
    rw [ran_length] at hl
    exact ⟨_, r', e1, l, j3, j4, rfl, ⟨hl, hr⟩, hne⟩
  · obtain ⟨l, j3, j4, rfl, V⟩ := hs
    exact rr_rt (rt_ret (ev_un (ev_var rfl) (toD_TI l))) ⟨l, rfl, V⟩
/-! ### an order -/
theorem ev_compFilter {s : Sl} {st : Int → Sl} {w : Ar} {vs : List Nat} {t : Te} {e : Ex} {tg : Tg} {l : List Int} {p : Int → Bool} (hw : Av w s (l.map D.int)) (hl : l.length ≤ 1000) (h : ∀ x ∈ l, tg (.int x) (wipe s vs) = some (st x) ∧ Tv t (st x) (p x) ∧ Ev e (st x) (.int x)) : Ev (eComp vs w tg t e) s (LI (l.filter p)) :=
  ev_comp (enc := D.int) (F := D.int) hw hl fun x hx => ⟨(h x hx).1, (h x hx).2.1, fun _ => (h x hx).2.2⟩
theorem nodup_filter_ne {x : Int} : ∀ {l : List Int}, l.Nodup → x ∈ l → (l.filter fun y => !(y == x)).length + 1 = l.length
  | [], _, h => by cases h
  | y :: l, nd, h => by
    obtain ⟨h1, h2⟩ := List.nodup_cons.mp nd
    rw [List.filter_cons]
    by_cases q : y = x
    · subst q
      have : l.filter (fun z => !(z == y)) = l := List.filter_eq_self.mpr fun z hz => by
        have : z ≠ y := fun e => h1 (by rw [← e]; exact hz)
        simpa using this
      rw [if_neg (by simp), this]
      rfl
    · rw [if_pos (by simpa using q), List.length_cons, nodup_filter_ne h2 ((List.mem_cons.mp h).resolve_left fun e => q e.symm), List.length_cons]
theorem fr_order {n : Nat} (h1 : 1 ≤ n) (h4 : n ≤ 4) : Fr F_law_order [.row, .int n] (fun v => ∃ o, v = TI o ∧ (∀ x ∈ o, x ∈ ran n) ∧ o.length = n) := by
  refine fr_rt (rr_nx (nx_par (av_cons (ev_tup av_nil (by decide)) (av_cons (ev_un (ev_var rfl) (oListRg_n (by omega))) av_nil))) (rr_seq (S := fun s => ∃ o l j4 j5, s = [some .row, some (.int n), some (TI o), some (LI l), j4, j5, none] ∧ (∀ x ∈ o, x ∈ ran n) ∧ o.length = n) ?_ fun s hs => ?_))
  · have L := nr_for (g := gVar 4) (w := wRange (eVar 1)) (b := (sSeq (sSet 5 (eCall F_law_pick (aCons (eVar 0) (aCons (eVar 3) aNil)))) (sSeq (sPar [2, 3] (aCons (eBin oCatT (eVar 2) (eTup (aCons (eVar 5) aNil))) (aCons (eComp [6] (wSeq (eVar 3)) (gVar 6) (tB (eBin oNe (eVar 6) (eVar 5))) (eVar 6)) aNil))) sNil)))
      (enc := D.int) (xs := ran n) (s := [some .row, some (.int n), some (TI []), some (LI (ran n)), none, none, none]) (fun done s => ∃ o l j4 j5, s = [some .row, some (.int n), some (TI o), some (LI l), j4, j5, none] ∧ (∀ x ∈ o, x ∈ ran n) ∧ (∀ x ∈ l, x ∈ ran n) ∧ l.Nodup ∧ l.length + done.length = n ∧ o.length = done.length)
      (av_range (n := n) (ev_var rfl) (by omega)) ⟨[], ran n, none, none, rfl, fun _ h => (by cases h), fun _ h => h, ran_nodup n, by rw [ran_length]; rfl, rfl⟩ fun done x rest s hd hs => by
        obtain ⟨o, l, j4, j5, rfl, ho, hl, nd, hlen, hol⟩ := hs
        obtain ⟨_, hlt, _⟩ := ran_split hd
        refine ⟨[some .row, some (.int n), some (TI o), some (LI l), some (.int x), j5, none], rfl, ?_⟩
        refine nr_seq (S := fun s => ∃ y, s = [some .row, some (.int n), some (TI o), some (LI l), some (.int x), some (.int y), none] ∧ y ∈ l) (nr_set (er_call (av_cons (ev_var rfl) (av_cons (ev_var rfl) av_nil)) (fr_pick (l := l.map D.int) (by rw [List.length_map]; omega) (by rw [List.length_map]; omega))) fun v hv => ?_) fun s1 hs1 => ?_
        · obtain ⟨y, hy, rfl⟩ := List.mem_map.mp hv
          exact ⟨y, rfl, hy⟩
        · obtain ⟨y, rfl, hy⟩ := hs1
          have c1 : Ev (eBin oCatT (eVar 2) (eTup (aCons (eVar 5) aNil))) [some .row, some (.int n), some (TI o), some (LI l), some (.int x), some (.int y), none] (TI (o ++ [y])) :=
            ev_bin (x := TI o) (y := .tup [.int y]) (ev_var rfl) (ev_tup (av_cons (ev_var rfl) av_nil) (by simp)) (by
              show (if (o.map D.int).length + 1 ≤ 1000 then some (D.tup (o.map D.int ++ [.int y])) else none) = _
              rw [List.length_map, if_pos (by omega)]
              show _ = some (D.tup ((o ++ [y]).map D.int))
              rw [List.map_append]; rfl)
          have c2 : Ev (eComp [6] (wSeq (eVar 3)) (gVar 6) (tB (eBin oNe (eVar 6) (eVar 5))) (eVar 6)) [some .row, some (.int n), some (TI o), some (LI l), some (.int x), some (.int y), none] (LI (l.filter fun z => !(z == y))) :=
            ev_compFilter (st := fun z => [some .row, some (.int n), some (TI o), some (LI l), some (.int x), some (.int y), some (.int z)]) (av_seqL (ev_var rfl)) (by omega) fun z hz => ⟨rfl, tv_b (ev_bin (ev_var rfl) (ev_var rfl) (oNe_int _ _)), ev_var rfl⟩
          refine nr_nx (nx_seq (nx_par (av_cons c1 (av_cons c2 av_nil))) nx_nil) ⟨o ++ [y], l.filter fun z => !(z == y), some (.int x), some (.int y), rfl, fun z hz => ?_, fun z hz => hl z (List.mem_filter.mp hz).1, nd.filter _, ?_, by simp [hol]⟩
          · rcases List.mem_append.mp hz with q | q
            · exact ho z q
            · rw [List.mem_singleton.mp q]; exact hl y hy
          · have := nodup_filter_ne nd hy
            rw [List.length_append, List.length_singleton]
            omega
    intro r
    obtain ⟨s', r', e1, o, l, j4, j5, rfl, ho, _, _, _, hol⟩ := L r
    rw [ran_length] at hol
    exact ⟨_, r', e1, o, l, j4, j5, rfl, ho, hol⟩
  · obtain ⟨o, l, j4, j5, rfl, ho⟩ := hs
    exact rr_rt (rt_ret (ev_var rfl)) ⟨o, rfl, ho⟩
/-! ### weights -/
theorem compL_r {tg : Tg} {e : Ex} {s : Sl} {P : D → Prop} : ∀ (xs : List D), (∀ x ∈ xs, ∃ s1, tg x s = some s1 ∧ Er e s1 P) → ∀ r, ∃ ds r', compL tg tYes e s xs r = some (ds, r') ∧ ds.length = xs.length ∧ ∀ d ∈ ds, P d
  | [], _, r => ⟨[], r, rfl, rfl, fun _ h => by cases h⟩
  | x :: xs, h, r => by
    obtain ⟨s1, e1, e2⟩ := h x List.mem_cons_self
    obtain ⟨v, r1, e3, hv⟩ := e2 r
    obtain ⟨ds, r2, e4, hl, hd⟩ := compL_r xs (fun y hy => h y (List.mem_cons_of_mem _ hy)) r1
    refine ⟨v :: ds, r2, ?_, by simp [hl], fun d hd' => ?_⟩
    · unfold compL
      rw [e1]
      dsimp only
      show (match some (true, r) with | none => none | some (false, r1) => compL tg tYes e s xs r1 | some (true, r1) => match e s1 r1 with | none => none | some (x, r2) => match compL tg tYes e s xs r2 with | none => none | some (xs, r3) => some (x :: xs, r3)) = _
      dsimp only
      rw [e3]
      dsimp only
      rw [e4]
    · rcases List.mem_cons.mp hd' with q | q
      · rw [q]; exact hv
      · exact hd d q
theorem er_comp {vs : List Nat} {w : Ar} {tg : Tg} {e : Ex} {s : Sl} {xs : List D} {P : D → Prop} (hw : Av w s xs) (hl : xs.length ≤ 1000) (h : ∀ x ∈ xs, ∃ s1, tg x (wipe s vs) = some s1 ∧ Er e s1 P) : Er (eComp vs w tg tYes e) s (fun v => ∃ ds, v = .lst ds ∧ ds.length = xs.length ∧ ∀ d ∈ ds, P d) := fun r => by
  obtain ⟨ds, r', e1, e2, e3⟩ := compL_r xs h r
  exact ⟨.lst ds, r', by unfold eComp; rw [hw r]; dsimp only; rw [if_pos hl, e1], ds, rfl, e2, e3⟩
theorem ints_of {P : Int → Prop} : ∀ {ds : List D}, (∀ d ∈ ds, ∃ x, d = .int x ∧ P x) → ∃ l : List Int, ds = l.map D.int ∧ ∀ x ∈ l, P x
  | [], _ => ⟨[], rfl, fun _ h => by cases h⟩
  | d :: ds, h => by
    obtain ⟨x, rfl, hx⟩ := h d List.mem_cons_self
    obtain ⟨l, rfl, hl⟩ := ints_of fun d hd => h d (List.mem_cons_of_mem _ hd)
    exact ⟨x :: l, rfl, fun y hy => by
      rcases List.mem_cons.mp hy with q | q
      · rw [q]; exact hx
      · exact hl y q⟩
end PL
end
section
set_option Elab.async false
set_option autoImplicit false
set_option linter.all false
set_option maxRecDepth 100000
set_option maxHeartbeats 1000000
/-! L10: the law ahead of the weights: draws, names, shapes. -/
namespace PL
theorem nr_imp {m : Sm} {s : Sl} {S S' : Sl → Prop} (h : Nr m s S) (hs : ∀ s, S s → S' s) : Nr m s S' := fun r => by
  obtain ⟨s', r', e1, e2⟩ := h r
  exact ⟨s', r', e1, hs s' e2⟩
theorem s0_ok : Nr pS0 ([none, some .row] ++ List.replicate 22 none) (fun s => ∃ n : Nat, 1 ≤ n ∧ n ≤ 4 ∧ s = none :: some .row :: some (.int n) :: no 21) := by
  refine nr_set (P := fun v => ∃ n : Nat, 1 ≤ n ∧ n ≤ 4 ∧ v = .int n) (er_binR ev_c (er_taken (m := 4) rfl ev_c (by decide) (by decide)) fun v hv => ?_) fun v hv => ?_
  · obtain ⟨x, rfl, h0, h1⟩ := hv
    exact ⟨_, rfl, (1 + x).toNat, by omega, by omega, by congr 1; omega⟩
  · obtain ⟨n, h1, h4, rfl⟩ := hv
    exact ⟨n, h1, h4, rfl⟩
theorem s1_ok {n : Nat} (h1 : 1 ≤ n) (h4 : n ≤ 4) : Nr pS1 (none :: some .row :: some (.int n) :: no 21) (fun s => ∃ ds ot, DVal n ds ∧ DVal n ot ∧ s = S6 n ds ot (no 18)) := by
  have d : Er (eCall F_law_deputies (aCons (eVar 1) (aCons (eVar 2) aNil))) (none :: some .row :: some (.int n) :: no 21) (fun v => ∃ l, v = TI l ∧ DVal n l) := er_call (av_cons (ev_var rfl) (av_cons (ev_var rfl) av_nil)) (fr_deputies h1 h4)
  refine nr_par (ar_cons d (ar_cons d (ar_cons (er_ev (ev_call (av_cons (ev_un (ev_var rfl) (oListRg_n (by omega))) av_nil) (lo h1 h4))) ar_nil))) fun xs hx => ?_
  obtain ⟨_, _, rfl, ⟨ds, rfl, V⟩, _, _, rfl, ⟨ot, rfl, W⟩, _, _, rfl, rfl, rfl⟩ := hx
  exact ⟨_, rfl, ds, ot, V, W, rfl⟩
structure Jk where
  a : Option D
  b : Option D
  c : Option D
  d : Option D
  e : Option D
  f : Option D
  g : Option D
def U (n : Nat) (ds ot : List Int) (j : Jk) (l : Sl) : Sl := S6 n ds ot (j.a :: j.b :: j.c :: j.d :: j.e :: j.f :: j.g :: l)
section
variable {n : Nat} {ds ot row : List Int} {b : Int}
theorem s06_ok (V : DVal n ds) (h1 : 1 ≤ n) (h4 : n ≤ 4) (l : Sl) (hl : l = no 18) : ∃ j, ∀ (m : Sm) (P : D → Prop), Rr m (U n ds ot j (some (LT []) :: no 10)) P → Rr (sSeq pS2 (sSeq pS3 (sSeq pS4 (sSeq pS5 (sSeq pS6 m))))) (S6 n ds ot l) P := by
  subst hl
  obtain ⟨b, row, fv, mem, eq, le⟩ := best_of h1 h4 V
  have B : Best n ds b row := ⟨fv, mem, eq, le⟩
  obtain ⟨j1, j2, N⟩ := s5_ok (ot := ot) V h1 h4 B (no 11) rfl
  exact ⟨⟨some (LI (sums n ds)), none, none, some (.int b), some (fnd b row), j1, j2⟩, fun m P h => rr_nx (s2_ok V h1 h4) (rr_nx (s3_ok V h1 h4 B) (rr_nx (s4_ok B (no 13)) (rr_nx N (rr_nx (nx_set (ev_lst av_nil (by decide))) h))))⟩
/-! ### names -/
theorem nx_putI {s s' : Sl} {a : List (Int × D)} {e k : Ex} {v : D} {z : Int} {i : Nat} (he : Ev e s v) (hk : Ev k s (.int z)) (hl : a.length < 1000) (hi : s[i]? = some (some (.dki a)) := by rfl) (hs : s.set i (some (.dki (putI a z v))) = s' := by rfl) : Nx (sPutI i k e) s s' := fun r => by
  unfold sPutI
  rw [he r]; dsimp only
  rw [hk r]; dsimp only
  rw [hi]; dsimp only
  rw [if_pos hl, hs]
theorem len_putI {a : List (Int × D)} {z : Int} {v : D} : (putI a z v).length ≤ a.length + 1 := by
  unfold putI
  split <;> simp
def stI (ds o : List Int) (a : List (Int × D)) (k : Int) : List (Int × D) := putI a (nth o k) (.int (if (!(nth ds k == -1)) = true then nth o (nth ds k) else -1))
theorem q7_ok (V : DVal n ds) (h1 : 1 ≤ n) (h4 : n ≤ 4) {o : List Int} (ho : o ∈ perms n) {nm : List (List Int)} (hnm : nm.length ≤ 900) (j : Jk) : ∃ i : Jk, Nx q7 (U n ds ot j (some (LT nm) :: some (TI o) :: no 9)) (U n ds ot i (some (LT (nm ++ [wn ds o])) :: some (TI o) :: no 9)) := by
  have O := perms_ord h1 h4 ho
  obtain ⟨l1, l2, _⟩ := ln_of h1 h4 V ho
  obtain ⟨_, j', L⟩ := nx_fori (g := gVar 8) (w := wRange (eVar 2)) (b := q7_1b) (enc := D.int) (xs := ran n) (S := fun (a : List (Int × D)) (j8 : Option D) => U n ds ot ⟨j.a, some (.dki a), j8, j.d, j.e, j.f, j.g⟩ (some (LT nm) :: some (TI o) :: no 9))
    (fun i a => a.length ≤ i) (stI ds o) (a := []) (j := j.c) (av_range (n := n) (ev_var rfl) (by omega)) (Nat.le_refl _) fun i a k j8 hi hI hk => by
      rw [ran_length] at hi
      obtain ⟨k1, k2⟩ := mem_ran.mp hk
      have hv := V.toVal.nth k1 k2
      refine ⟨Nat.le_trans len_putI (by omega), _, some (.int k), rfl, ?_⟩
      have dk : Ev (eBin oIx (eVar 3) (eVar 8)) (U n ds ot ⟨j.a, some (.dki a), some (.int k), j.d, j.e, j.f, j.g⟩ (some (LT nm) :: some (TI o) :: no 9)) (.int (nth ds k)) := ev_bin (ev_var rfl) (ev_var rfl) (oIx_TI k1 (by rw [V.len]; exact k2))
      have ev : Ev (eIf (tB (eBin oNe (eBin oIx (eVar 3) (eVar 8)) (eUn oNeg (eC (.int 1))))) (eBin oIx (eVar 14) (eBin oIx (eVar 3) (eVar 8))) (eUn oNeg (eC (.int 1)))) (U n ds ot ⟨j.a, some (.dki a), some (.int k), j.d, j.e, j.f, j.g⟩ (some (LT nm) :: some (TI o) :: no 9)) (.int (if (!(nth ds k == -1)) = true then nth o (nth ds k) else -1)) :=
        ev_if (tv_b (ev_bin dk (ev_un ev_c rfl) (oNe_int _ _))) (fun q => by
          rw [if_pos q]
          have : nth ds k ≠ -1 := by simpa using q
          exact ev_bin (ev_var rfl) dk (oIx_TI (by omega) (by rw [O.len]; exact hv.2))) fun q => by
          rw [if_neg (by rw [q]; decide)]
          exact ev_un ev_c rfl
      exact nx_seq (nx_putI (a := a) ev (ev_bin (ev_var rfl) (ev_var rfl) (oIx_TI k1 (by rw [O.len]; exact k2))) (by omega)) nx_nil
  have ed : (ran n).foldl (stI ds o) [] = dctD ds o := by
    unfold dctD
    rw [V.len]
    rfl
  rw [ed] at L
  have c := ev_comp' (vs := [8]) (w := wRange (eVar 2)) (tg := gVar 8) (e := eBin oGetI (eVar 7) (eVar 8)) (s := U n ds ot ⟨j.a, some (.dki (dctD ds o)), j', j.d, j.e, j.f, j.g⟩ (some (LT nm) :: some (TI o) :: no 9)) (enc := D.int) (xs := ran n) (F := fun k => D.int ((intOf (getI (dctD ds o) k)).getD 0))
    (st := fun k => U n ds ot ⟨j.a, some (.dki (dctD ds o)), some (.int k), j.d, j.e, j.f, j.g⟩ (some (LT nm) :: some (TI o) :: no 9)) (av_range (n := n) (ev_var rfl) (by omega)) (by rw [ran_length]; omega) fun k hk => by
      obtain ⟨x, e1, e2⟩ := l2 k hk
      refine ⟨rfl, ev_bin (x := .dki (dctD ds o)) (y := .int k) (ev_var rfl) (ev_var rfl) ?_⟩
      show getI (dctD ds o) k = _
      rw [e2, e1]
  have el : (D.lst ((ran n).map fun k => D.int ((intOf (getI (dctD ds o) k)).getD 0))) = LI (wn ds o) := by
    rw [← l1]
    unfold ln LI
    rw [V.len, List.map_map]
    rfl
  rw [el] at c
  refine ⟨⟨j.a, some (.dki (dctD ds o)), j', j.d, j.e, j.f, j.g⟩, nx_seq (nx_set (v := .dki []) fun r => rfl) (nx_seq L (nx_seq (nx_app (ds := nm.map TI) (ev_un c (toD_TI _)) rfl (by rw [List.length_map]; omega) ?_) nx_nil))⟩
  show U n ds ot ⟨j.a, some (.dki (dctD ds o)), j', j.d, j.e, j.f, j.g⟩ (some (.lst (nm.map TI ++ [TI (wn ds o)])) :: some (TI o) :: no 9) = _
  have : (LT (nm ++ [wn ds o])) = .lst (nm.map TI ++ [TI (wn ds o)]) := by unfold LT; rw [List.map_append]; rfl
  rw [this]
def names (n : Nat) (ds : List Int) : List (List Int) := (perms n).map (wn ds)
theorem s7_ok (V : DVal n ds) (h1 : 1 ≤ n) (h4 : n ≤ 4) (j : Jk) : ∃ (i : Jk) (i14 : Option D), Nx pS7 (U n ds ot j (some (LT []) :: no 10)) (U n ds ot i (some (LT (names n ds)) :: i14 :: no 9)) := by
  have hp := perms_len h1 h4
  obtain ⟨j', L⟩ := nx_forp (g := gVar 14) (w := wSeq (eVar 5)) (b := q7) (enc := TI) (xs := perms n) (S := fun (done : List (List Int)) (j : Jk × Option D) => U n ds ot j.1 (some (LT (done.map (wn ds))) :: j.2 :: no 9)) (j := (j, none)) (av_seqL (ev_var rfl)) fun done o rest j hd => by
    have ho : o ∈ perms n := by rw [← hd]; exact List.mem_append_right _ List.mem_cons_self
    have hl : done.length ≤ 24 := by
      have := congrArg List.length hd
      rw [List.length_append] at this
      omega
    obtain ⟨i, N⟩ := q7_ok (ot := ot) V h1 h4 ho (nm := done.map (wn ds)) (by rw [List.length_map]; omega) j.1
    refine ⟨_, (i, some (TI o)), rfl, ?_⟩
    have e : (done ++ [o]).map (wn ds) = done.map (wn ds) ++ [wn ds o] := by rw [List.map_append]; rfl
    rw [e]
    exact N
  exact ⟨j'.1, j'.2, L⟩
theorem s8_ok (V : DVal n ds) (W : DVal n ot) (h1 : 1 ≤ n) (h4 : n ≤ 4) (j : Jk) (j14 : Option D) : Nr pS8 (U n ds ot j (some (LT (names n ds)) :: j14 :: no 9)) (fun s => ∃ ot', DVal n ot' ∧ s = U n ds ot' j (some (LT (names n ds)) :: j14 :: no 9)) := by
  have hp := perms_len h1 h4
  have hl : ((names n ds).map TI).length = (perms n).length := by unfold names; rw [List.length_map, List.length_map]
  have h0 : 0 < (perms n).length := List.length_pos_iff.mpr hp.2
  refine nr_if (tr_b (er_binL (er_taken (m := 2) rfl ev_c (by decide) (by decide)) ev_c fun v hv => ?_)) (nr_seq (nr_set (er_call (av_cons (ev_var rfl) (av_cons (ev_var rfl) av_nil)) (fr_pick (l := (names n ds).map TI) (by omega) (by omega))) fun v hv => ?_) fun s hs => nr_nx nx_nil hs) (nr_nx nx_nil ⟨ot, W, rfl⟩)
  · obtain ⟨x, rfl, _, _⟩ := hv
    exact ⟨_, oEq_int _ _, _, rfl⟩
  · obtain ⟨x, hx, rfl⟩ := List.mem_map.mp hv
    obtain ⟨o, ho, rfl⟩ := List.mem_map.mp hx
    exact ⟨_, (ln_all h1 h4 V ho).2.2, rfl⟩
theorem s9_ok (V : DVal n ds) (h1 : 1 ≤ n) (h4 : n ≤ 4) (j : Jk) (j14 : Option D) : Nx pS9 (U n ds ot j (some (LT (names n ds)) :: j14 :: no 9)) (U n ds ot j (some (LT (names n ds)) :: j14 :: no 9)) := by
  have hp := perms_len h1 h4
  generalize hs : U n ds ot j (some (LT (names n ds)) :: j14 :: no 9) = s
  have v3 : Ev (eVar 3) s (TI ds) := ev_var (by rw [← hs]; rfl)
  have v13 : Ev (eVar 13) s (LT (names n ds)) := ev_var (by rw [← hs]; rfl)
  have hsl : (shp n ds).length = n := by
    obtain ⟨o, ho, e⟩ := List.mem_map.mp (shp_mem (ds := ds) h1 h4)
    rw [← e]
    exact (ln_all h1 h4 V ho).2.2.len
  have t1 := tv_not (k := true) (tv_b (ev_call (f := F_law_alike 6) (av_cons (ev_call (av_cons v3 av_nil) (fv_shape V h1 h4)) (av_cons (ev_un (o := oMinT) v13 (oMinT_TI (l := names n ds) (by unfold names; simp [hp.2]))) av_nil)) (alike_self 6 _ (plain_TI (shp n ds) (by omega)))))
  have ec : (names n ds).countP (fun y => y == ds) = own n ds := by
    unfold names own
    rw [List.countP_map]
    rfl
  have cn := ev_bin (o := oCount) v13 v3 (oCount_LT (names n ds) ds)
  rw [ec] at cn
  have t2 := tv_not (k := true) (tv_b (ev_call (f := F_law_alike 6) (av_cons (ev_call (av_cons v3 av_nil) (fv_own V h1 h4)) (av_cons cn av_nil)) (alike_self 6 _ rfl)))
  exact nx_if (k := false) (tv_or (k := false) (l := false) t1 fun _ => t2) (fun q => by cases q) fun _ => nx_nil
theorem s10_ok (V : DVal n ds) (W : DVal n ot) (h1 : 1 ≤ n) (h4 : n ≤ 4) (j : Jk) (j14 : Option D) : Nx pS10 (U n ds ot j (some (LT (names n ds)) :: j14 :: no 9)) (U n ds ot j (some (LT (names n ds)) :: j14 :: no 9)) := by
  generalize hs : U n ds ot j (some (LT (names n ds)) :: j14 :: no 9) = s
  have v3 : Ev (eVar 3) s (TI ds) := ev_var (by rw [← hs]; rfl)
  have v4 : Ev (eVar 4) s (TI ot) := ev_var (by rw [← hs]; rfl)
  have v13 : Ev (eVar 13) s (LT (names n ds)) := ev_var (by rw [← hs]; rfl)
  have i := ev_bin (o := oInD) v4 v13 (oInD_LT (names n ds) ot)
  have ea : ((names n ds).any fun y => y == ot) = (shp n ds == shp n ot) := (alike_iff h1 h4 V W).symm
  rw [ea] at i
  have t := tv_not (k := true) (tv_b (ev_call (f := F_law_alike 6) (av_cons (ev_call (av_cons v3 (av_cons v4 av_nil)) (fv_alike V W h1 h4)) (av_cons i av_nil)) (alike_self 6 _ rfl)))
  exact nx_if (k := false) t (fun q => by cases q) fun _ => nx_nil
end
end PL
end
section
set_option Elab.async false
set_option autoImplicit false
set_option linter.all false
set_option maxRecDepth 100000
set_option maxHeartbeats 1000000
/-! L11: the law's weights part, and the law. -/
namespace PL
/-! ### the chance of an order -/
theorem mem_done {n : Nat} {o done rest : List Int} {x : Int} (O : Ord n o) (h : done ++ x :: rest = o) : (∀ y ∈ done, y ∈ ran n) ∧ done.Nodup ∧ x ∈ ran n ∧ has done x = false ∧ done.length < n := by
  have nd := O.nd
  have hr := O.rng
  have hl := O.len
  rw [← h] at nd hr hl
  obtain ⟨n1, n2, n3⟩ := List.nodup_append.mp nd
  rw [List.length_append, List.length_cons] at hl
  exact ⟨fun y hy => hr y (List.mem_append_left _ hy), n1, hr x (List.mem_append_right _ List.mem_cons_self), has_false.mpr fun hx => n3 x hx x List.mem_cons_self rfl, by omega⟩
theorem chP_ok {n : Nat} {w : List Int} (W : WV n w) (h4 : n ≤ 4) : ∀ o : List Int, (∀ y ∈ o, y ∈ ran n) → o.Nodup → (chP w o).2 = left w o ∧ G o.length 1 (chP w o).1 := by
  refine rev_ind (fun _ _ => ⟨(left_nil w).symm, G.one⟩) fun o x ih hr nd => ?_
  obtain ⟨n1, n2, n3⟩ := List.nodup_append.mp nd
  have hx : has o x = false := has_false.mpr fun h => n3 x h x (List.mem_singleton.mpr rfl) rfl
  have hxr : x ∈ ran n := hr x (List.mem_append_right _ (List.mem_singleton.mpr rfl))
  obtain ⟨i1, i2⟩ := ih (fun y hy => hr y (List.mem_append_left _ hy)) n1
  obtain ⟨l1, l2, l3⟩ := left_rng (gone := o) W h4
  rw [chP_snoc, i1]
  refine ⟨(left_add (by rw [W.len]; exact hxr) hx (has_snoc o x)).symm, ?_⟩
  rw [List.length_append, List.length_singleton]
  exact i2.byI (W.nth hxr).1 (l3 x hxr hx) l2
theorem chO_G {n : Nat} {w o : List Int} (W : WV n w) (h4 : n ≤ 4) (O : Ord n o) : G n 1 (chO w o) := by
  have := (chP_ok W h4 o O.rng O.nd).2
  rw [O.len] at this
  exact this
theorem sum_G {α : Type} {k : Nat} {f : α → Rat} : ∀ l : List α, (∀ x ∈ l, G k 1 (f x)) → G k l.length (sumR (l.map f))
  | [], _ => G.zero _ _
  | x :: l, h => by
    have := (h x List.mem_cons_self).add (sum_G l fun y hy => h y (List.mem_cons_of_mem _ hy))
    rw [Nat.add_comm] at this
    exact this
theorem sum_snoc {α : Type} (f : α → Rat) (l : List α) (x : α) : sumR ((l ++ [x]).map f) = sumR (l.map f) + f x := by
  rw [List.map_append, sumR_append]
  congr 1
  show f x + 0 = f x
  rw [Rat.add_zero]
section
variable {n : Nat} {ds ot w : List Int} {P : Int} {nm : D}
/-- all slots of the last part -/
def Z (n : Nat) (ds ot : List Int) (j : Jk) (nm : D) (o : List Int) (w : List Int) (P : Int) (told : List (Int × List Int)) (wh : Rat) (l : Sl) : Sl := U n ds ot j (some nm :: some (TI o) :: some (TI w) :: some (.int P) :: some (.lst (told.map TP)) :: some (RD wh) :: l)
theorem s11_ok (h1 : 1 ≤ n) (h4 : n ≤ 4) (j : Jk) (j14 : Option D) : Nr pS11 (U n ds ot j (some nm :: j14 :: no 9)) (fun s => ∃ w P, WV n w ∧ P ∈ ran n ∧ s = U n ds ot j (some nm :: j14 :: some (TI w) :: some (.int P) :: some (.lst []) :: some (RD 0) :: no 5)) := by
  have c := er_comp (vs := [8]) (w := wRange (eVar 2)) (tg := gVar 8) (e := eBin oAdd (eC (.int 1)) (eCall F_law_taken (aCons (eVar 1) (aCons (eC (.int 9)) aNil)))) (s := U n ds ot j (some nm :: j14 :: no 9)) (xs := (ran n).map D.int) (P := fun v => ∃ x, v = .int x ∧ (1 ≤ x ∧ x ≤ 9)) (av_range (n := n) (ev_var rfl) (by omega)) (by rw [List.length_map, ran_length]; omega) fun x hx => by
    obtain ⟨k, hk, rfl⟩ := List.mem_map.mp hx
    refine ⟨_, rfl, er_binR ev_c (er_taken (m := 9) rfl ev_c (by decide) (by decide)) fun v hv => ?_⟩
    obtain ⟨x, rfl, x0, x1⟩ := hv
    exact ⟨_, rfl, 1 + x, rfl, by omega, by omega⟩
  have ct := er_un (o := oTuple) (Q := fun v => ∃ w, v = TI w ∧ WV n w) c fun v hv => by
    obtain ⟨ds', rfl, hl, hd⟩ := hv
    obtain ⟨l, rfl, hl2⟩ := ints_of hd
    rw [List.length_map, List.length_map, ran_length] at hl
    exact ⟨_, rfl, l, rfl, hl, hl2⟩
  have tk := er_taken (s := U n ds ot j (some nm :: j14 :: no 9)) (i := 1) (e := eVar 2) (m := (n : Int)) rfl (ev_var rfl) (by omega) (by omega)
  refine nr_par (ar_cons ct (ar_cons tk (ar_cons (er_ev (ev_lst av_nil (by decide))) (ar_cons (er_ev ev_R0) ar_nil)))) fun xs hx => ?_
  obtain ⟨_, _, rfl, ⟨w, rfl, W⟩, _, _, rfl, ⟨P, rfl, p0, p1⟩, _, _, rfl, rfl, _, _, rfl, rfl, rfl⟩ := hx
  exact ⟨_, rfl, w, P, W, mem_ran.mpr ⟨p0, p1⟩, rfl⟩
theorem s12_ok (h1 : 1 ≤ n) (h4 : n ≤ 4) (j : Jk) (j14 : Option D) : Nr pS12 (U n ds ot j (some nm :: j14 :: some (TI w) :: some (.int P) :: some (.lst []) :: some (RD 0) :: no 5)) (fun s => ∃ o, ((∀ x ∈ o, x ∈ ran n) ∧ o.length = n) ∧ s = Z n ds ot j nm o w P [] 0 (no 5)) :=
  nr_set (er_call (av_cons (ev_var rfl) (av_cons (ev_var rfl) av_nil)) (fr_order h1 h4)) fun v hv => by
    obtain ⟨o, rfl, ho⟩ := hv
    exact ⟨o, ho, rfl⟩
/-- told so far -/
structure TD (n : Nat) (told : List (Int × List Int)) (k : Nat) : Prop where
  one : ∀ q ∈ told, T1 n q ∧ q.1 < (k : Int)
  inc : told.Pairwise fun a b => a.1 < b.1
  len : told.length ≤ k
theorem s13_ok (V : DVal n ds) (h1 : 1 ≤ n) (h4 : n ≤ 4) {o : List Int} (ho : ∀ x ∈ o, x ∈ ran n) (hol : o.length ≤ 800) (j : Jk) : Nr pS13 (Z n ds ot j nm o w P [] 0 (no 5)) (fun s => ∃ told i, TV n told ∧ s = Z n ds ot i nm o w P told 0 (no 5)) := by
  have L := nr_for (g := gVar 8) (w := wRange (eVar 2)) (b := q13) (enc := D.int) (xs := ran n) (s := Z n ds ot j nm o w P [] 0 (no 5)) (fun done s => ∃ told i, TD n told done.length ∧ s = Z n ds ot i nm o w P told 0 (no 5)) (av_range (n := n) (ev_var rfl) (by omega))
    ⟨[], j, ⟨fun _ h => (by cases h), List.Pairwise.nil, Nat.le_refl _⟩, rfl⟩ fun done x rest s hd hs => by
      obtain ⟨told, i, T, rfl⟩ := hs
      obtain ⟨hx, hlt, _⟩ := ran_split hd
      have hxr : x ∈ ran n := mem_ran.mpr ⟨by omega, by omega⟩
      refine ⟨Z n ds ot ⟨i.a, i.b, some (.int x), i.d, i.e, i.f, i.g⟩ nm o w P told 0 (no 5), rfl, ?_⟩
      obtain ⟨_, R⟩ := tr_gen V.toVal ho hxr
      have t1 : T1 n (x, traceL ds o x) := ⟨hxr, R.nd, traceL_ne ds x o, R.last, R.rng, trace_head ds x o⟩
      have tp : Ev (eTup (aCons (eVar 8) (aCons (eUn oTuple (eCall F_law_handed (aCons (eVar 3) (aCons (eVar 14) (aCons (eVar 8) aNil))))) aNil))) (Z n ds ot ⟨i.a, i.b, some (.int x), i.d, i.e, i.f, i.g⟩ nm o w P told 0 (no 5)) (TP (x, traceL ds o x)) :=
        ev_tup (av_cons (ev_var rfl) (av_cons (ev_un (ev_call (av_cons (ev_var rfl) (av_cons (ev_var rfl) (av_cons (ev_var rfl) av_nil))) (fv_lhanded V.toVal (by omega) hol hxr)) (toD_TI _)) av_nil)) (by simp)
      have hle := T.len
      refine nr_seq (nr_if (S := fun s => ∃ told i, TD n told (done ++ [x]).length ∧ s = Z n ds ot i nm o w P told 0 (no 5)) (tr_b (er_binL (er_taken (m := 2) rfl ev_c (by decide) (by decide)) ev_c fun v hv => ?_)) (nr_nx (s' := Z n ds ot ⟨i.a, i.b, some (.int x), i.d, i.e, i.f, i.g⟩ nm o w P (told ++ [(x, traceL ds o x)]) 0 (no 5)) (nx_seq (nx_app (ds := told.map TP) tp rfl (by rw [List.length_map]; omega) ?_) nx_nil) ⟨_, _, ⟨fun q hq => ?_, ?_, ?_⟩, rfl⟩) (nr_nx nx_nil ⟨told, _, ⟨fun q hq => ?_, T.inc, ?_⟩, rfl⟩)) fun s hs => nr_nx nx_nil hs
      · obtain ⟨y, rfl, _, _⟩ := hv
        exact ⟨_, oEq_int _ _, _, rfl⟩
      · show List.set (Z n ds ot ⟨i.a, i.b, some (.int x), i.d, i.e, i.f, i.g⟩ nm o w P told 0 (no 5)) 17 (some (.lst (told.map TP ++ [TP (x, traceL ds o x)]))) = _
        unfold Z
        rw [List.map_append]
        rfl
      · rw [List.length_append, List.length_singleton]
        rcases List.mem_append.mp hq with z | z
        · have := T.one q z
          exact ⟨this.1, by omega⟩
        · rw [List.mem_singleton.mp z]
          refine ⟨t1, ?_⟩
          show x < _
          omega
      · refine List.pairwise_append.mpr ⟨T.inc, List.pairwise_singleton _ _, fun a ha b hb => ?_⟩
        rw [List.mem_singleton.mp hb]
        have := (T.one a ha).2
        show a.1 < x
        omega
      · rw [List.length_append, List.length_append, List.length_singleton, List.length_singleton]; omega
      · rw [List.length_append, List.length_singleton]
        have := T.one q hq
        exact ⟨this.1, by omega⟩
      · rw [List.length_append, List.length_singleton]; omega
  refine nr_imp L fun s hs => ?_
  obtain ⟨told, i, T, rfl⟩ := hs
  rw [ran_length] at T
  exact ⟨told, i, ⟨fun q hq => (T.one q hq).1, T.inc, by have := T.len; omega⟩, rfl⟩
/-! ### the sums -/
variable {o0 : List Int} {told : List (Int × List Int)}
abbrev cts (m : Nat) (f : Int → Rat) : D := .lst ((ran m).map fun j => RD (f j))
theorem cts_ix {m : Nat} {f : Int → Rat} {z : Int} (h : z ∈ ran m) : oIx (cts m f) (.int z) = some (RD (f z)) := by
  obtain ⟨h0, h1⟩ := mem_ran.mp h
  show (match ixOf ((ran m).map fun j => RD (f j)).length z with | some j => ((ran m).map fun j => RD (f j))[j]? | none => none) = _
  rw [List.length_map, ran_length, ixOf_nn h0 h1]
  show ((ran m).map fun j => RD (f j))[z.toNat]? = _
  unfold ran
  rw [List.getElem?_map, List.getElem?_map, List.getElem?_range (by omega)]
  show some (RD (f ((z.toNat : Nat) : Int))) = _
  rw [show ((z.toNat : Nat) : Int) = z by omega]
theorem cts_set {m : Nat} {f : Int → Rat} {z : Int} (h : z ∈ ran m) (v : Rat) : ((ran m).map fun j => RD (f j)).set z.toNat (RD v) = (ran m).map fun j => RD (if z = j then v else f j) := by
  obtain ⟨h0, h1⟩ := mem_ran.mp h
  refine List.ext_getElem (by simp) fun i hi hi2 => ?_
  rw [List.length_map, ran_length] at hi2
  rw [List.getElem_set, List.getElem_map, List.getElem_map]
  have e : (ran m)[i]'(by rw [ran_length]; exact hi2) = (i : Int) := by unfold ran; simp
  rw [e]
  by_cases q : z.toNat = i
  · rw [if_pos q, if_pos (by omega)]
  · rw [if_neg q, if_neg (by omega)]
theorem nx_setIxR {s s' : Sl} {i : Nat} {k e : Ex} {z : Int} {m : Nat} {f : Int → Rat} {v : Rat} (he : Ev e s (RD v)) (hk : Ev k s (.int z)) (h : z ∈ ran m) (hi : s[i]? = some (some (cts m f)) := by rfl) (hs : s.set i (some (cts m fun j => if z = j then v else f j)) = s' := by rfl) : Nx (sSetIx i k e) s s' := fun r => by
  obtain ⟨h0, h1⟩ := mem_ran.mp h
  unfold sSetIx
  rw [he r]; dsimp only
  rw [hk r]; dsimp only
  rw [hi]; dsimp only
  rw [List.length_map, ran_length, ixOf_nn h0 h1]; dsimp only
  rw [cts_set h, hs]
theorem s14_ok (V : DVal n ds) (h4 : n ≤ 4) (hP : P ∈ ran n) (j : Jk) : Nx pS14 (Z n ds ot j nm o0 w P told 0 (no 5)) (Z n ds ot j nm o0 w P told 0 (some (cts ((chain ds P).length + 1) fun _ => 0) :: no 4)) := by
  have hcl := chain_len V.toVal hP
  refine nx_set (ev_bin (o := oRepL) (x := .lst [RD 0]) (y := .int ((chain ds P).length + 1)) (ev_lst (av_cons ev_R0 av_nil) (by simp)) (ev_bin (ev_un (ev_call (av_cons (ev_var rfl) (av_cons (ev_var rfl) av_nil)) (fv_lchain V.toVal (by omega) hP)) (oLen_LI _)) ev_c (oAdd_int _ _)) ?_)
  show (if 0 ≤ (((chain ds P).length : Int) + 1) ∧ (((chain ds P).length : Int) + 1) ≤ 1000 ∧ [RD 0].length = 1 then some (D.lst (List.replicate (((chain ds P).length : Int) + 1).toNat [RD 0]).flatten) else none) = _
  rw [if_pos ⟨by omega, by omega, rfl⟩]
  have e : (((chain ds P).length : Int) + 1).toNat = (chain ds P).length + 1 := by omega
  rw [e]
  congr 2
  refine List.ext_getElem (by simp [ran]) fun i hi hi2 => ?_
  rw [List.getElem_map]
  have : (List.replicate ((chain ds P).length + 1) [RD 0]).flatten = List.replicate ((chain ds P).length + 1) (RD 0) := by
    generalize (chain ds P).length + 1 = k
    induction k with
    | zero => rfl
    | succ k ih => rw [List.replicate_succ, List.flatten_cons, ih, List.replicate_succ]; rfl
  simp only [this, List.getElem_replicate]
/-- a turn for one order -/
theorem q15_ok (V : DVal n ds) (W : WV n w) (TVt : TV n told) (hP : P ∈ ran n) (h1 : 1 ≤ n) (h4 : n ≤ 4) {o : List Int} (O : Ord n o) {B : Nat} (hB : B ≤ 1000) {wh : Rat} (hw : G n B wh) {f : Int → Rat} (hf : ∀ z, G n B (f z)) (j : Jk) (j20 j21 j22 j23 : Option D) :
    ∃ i i20 i21 i22 i23, Nx q15 (Z n ds ot ⟨j.a, some (TI o), j.c, j.d, j.e, j.f, j.g⟩ nm o0 w P told wh (some (cts ((chain ds P).length + 1) f) :: j20 :: j21 :: j22 :: j23 :: []))
      (Z n ds ot i nm o0 w P told (wh + sameR ds told w o) (some (cts ((chain ds P).length + 1) fun z => f z + atR ds w P z o) :: i20 :: i21 :: i22 :: i23 :: [])) := by
  obtain ⟨p0, p1⟩ := mem_ran.mp hP
  have n0 : Nx q15_0 (Z n ds ot ⟨j.a, some (TI o), j.c, j.d, j.e, j.f, j.g⟩ nm o0 w P told wh (some (cts ((chain ds P).length + 1) f) :: j20 :: j21 :: j22 :: j23 :: [])) (Z n ds ot ⟨j.a, some (TI o), j.c, j.d, j.e, j.f, j.g⟩ nm o0 w P told wh (some (cts ((chain ds P).length + 1) f) :: some (RD (chP w []).1) :: some (.int (chP w []).2) :: j22 :: j23 :: [])) :=
    nx_par (av_cons ev_R1 (av_cons (ev_un (ev_var rfl) (oSum_TI w)) av_nil))
  obtain ⟨j8, n1⟩ := nx_forp (g := gVar 8) (w := wSeq (eVar 7)) (b := q15_1b) (enc := D.int) (xs := o) (S := fun (done : List Int) (j8 : Option D) => Z n ds ot ⟨j.a, some (TI o), j8, j.d, j.e, j.f, j.g⟩ nm o0 w P told wh (some (cts ((chain ds P).length + 1) f) :: some (RD (chP w done).1) :: some (.int (chP w done).2) :: j22 :: j23 :: [])) (j := j.c) (av_seqT (ev_var rfl)) fun done x rest j8 hd => by
    obtain ⟨d1, d2, d3, d4, d5⟩ := mem_done O hd
    obtain ⟨x0, x1⟩ := mem_ran.mp d3
    obtain ⟨c1, c2⟩ := chP_ok W h4 done d1 d2
    obtain ⟨l1, l2, l3⟩ := left_rng (gone := done) W h4
    have hw1 := (W.nth d3).1
    have hw2 := l3 x d3 d4
    refine ⟨Z n ds ot ⟨j.a, some (TI o), some (.int x), j.d, j.e, j.f, j.g⟩ nm o0 w P told wh (some (cts ((chain ds P).length + 1) f) :: some (RD (chP w done).1) :: some (.int (chP w done).2) :: j22 :: j23 :: []), some (.int x), rfl, ?_⟩
    rw [chP_snoc, c1]
    have wx : Ev (eBin oIx (eVar 15) (eVar 8)) (Z n ds ot ⟨j.a, some (TI o), some (.int x), j.d, j.e, j.f, j.g⟩ nm o0 w P told wh (some (cts ((chain ds P).length + 1) f) :: some (RD (chP w done).1) :: some (.int (left w done)) :: j22 :: j23 :: [])) (.int (nth w x)) := ev_bin (ev_var rfl) (ev_var rfl) (oIx_TI x0 (by rw [W.len]; exact x1))
    exact nx_seq (nx_par (av_cons (ev_call (av_cons (ev_var rfl) (av_cons (ev_call (av_cons wx (av_cons (ev_var rfl) av_nil)) (fv_lratioI hw1 hw2 l2)) av_nil)) (fv_lby (c2.wd (by omega) (by decide)) (wd_mkI hw1 hw2 l2))) (av_cons (ev_bin (ev_var rfl) wx (oSub_int _ _)) av_nil))) nx_nil
  have hch := chO_G W h4 O
  have wch : Wd (chO w o) := hch.wd h4 (by decide)
  generalize hs : Z n ds ot ⟨j.a, some (TI o), j8, j.d, j.e, j.f, j.g⟩ nm o0 w P told wh (some (cts ((chain ds P).length + 1) f) :: some (RD (chP w o).1) :: some (.int (chP w o).2) :: j22 :: j23 :: []) = s at n1
  have hwp : wipe s [8, 23] = Z n ds ot ⟨j.a, some (TI o), none, j.d, j.e, j.f, j.g⟩ nm o0 w P told wh (some (cts ((chain ds P).length + 1) f) :: some (RD (chP w o).1) :: some (.int (chP w o).2) :: j22 :: none :: []) := by rw [← hs]; rfl
  have cm := ev_comp (vs := [8, 23]) (w := wSeq (eVar 17)) (tg := gTup [(gVar 8), (gVar 23)]) (t := tB (eBin oNe (eUn oTuple (eCall F_law_handed (aCons (eVar 3) (aCons (eVar 7) (aCons (eVar 8) aNil))))) (eVar 23))) (e := eVar 8) (s := s) (enc := TP) (xs := told) (F := fun q => D.int q.1) (p := fun q => !(traceL ds o q.1 == q.2))
    (st := fun q => Z n ds ot ⟨j.a, some (TI o), some (.int q.1), j.d, j.e, j.f, j.g⟩ nm o0 w P told wh (some (cts ((chain ds P).length + 1) f) :: some (RD (chP w o).1) :: some (.int (chP w o).2) :: j22 :: some (TI q.2) :: [])) (av_seqL (ev_var (by rw [← hs]; rfl))) (by have := TVt.len; omega) fun q hq => by
      rw [hwp]
      have := (TVt.one q hq).mem
      exact ⟨rfl, tv_b (ev_bin (o := oNe) (ev_un (ev_call (av_cons (ev_var rfl) (av_cons (ev_var rfl) (av_cons (ev_var rfl) av_nil))) (fv_lhanded V.toVal (by omega) (by rw [O.len]; omega) this)) (toD_TI _)) (ev_var rfl) (by
        show (if (((traceL ds o q.1).map D.int).all (D.ok 7) && (q.2.map D.int).all (D.ok 7)) = true then some (D.bl (!D.beq (TI (traceL ds o q.1)) (TI q.2))) else none) = _
        rw [ok_ints, ok_ints, beq_TI]; rfl)), fun _ => ev_var rfl⟩
  have hem : oEq (.lst ((told.filter fun q => !(traceL ds o q.1 == q.2)).map fun q => D.int q.1)) (.lst []) = some (.bl (same ds told o)) := by
    have e1 : ((told.filter fun q => !(traceL ds o q.1 == q.2)).map fun q => D.int q.1) = ((told.filter fun q => !(traceL ds o q.1 == q.2)).map fun q => q.1).map D.int := by rw [List.map_map]; rfl
    rw [e1]
    show (if (((((told.filter fun q => !(traceL ds o q.1 == q.2)).map fun q => q.1).map D.int).all (D.ok 7)) && ([] : List D).all (D.ok 7)) = true then some (D.bl (D.beqs (((told.filter fun q => !(traceL ds o q.1 == q.2)).map fun q => q.1).map D.int) (([] : List Int).map D.int))) else none) = _
    rw [ok_ints, beqs_ints]
    show some (D.bl _) = some (D.bl _)
    congr 2
    unfold same
    rw [Bool.eq_iff_iff, beq_iff_eq, List.map_eq_nil_iff, List.filter_eq_nil_iff, List.all_eq_true]
    constructor
    · intro h q hq
      have := h q hq
      simpa using this
    · intro h q hq
      rw [h q hq]
      decide
  have tv := tv_b (ev_bin (o := oEq) cm (ev_lst av_nil (by decide)) hem)
  have hwd : Wd wh := hw.wd h4 (by omega)
  have n2 : Nx q15_2 s (Z n ds ot ⟨j.a, some (TI o), j8, j.d, j.e, j.f, j.g⟩ nm o0 w P told (wh + sameR ds told w o) (some (cts ((chain ds P).length + 1) f) :: some (RD (chP w o).1) :: some (.int (chP w o).2) :: j22 :: j23 :: [])) := by
    unfold sameR
    refine nx_if tv (fun q => ?_) fun q => ?_
    · rw [if_pos q]
      subst hs
      exact nx_seq (nx_set (ev_call (av_cons (ev_var rfl) (av_cons (ev_var rfl) av_nil)) (fv_lplus hwd wch))) nx_nil
    · rw [if_neg (by rw [q]; decide), Rat.add_zero, ← hs]
      exact nx_nil
  have hat : ((traceL ds o P).length : Int) - 1 ∈ ran ((chain ds P).length + 1) := by
    have := trace_len V.toVal O.rng hP
    have := List.length_pos_iff.mpr (traceL_ne ds P o)
    exact mem_ran.mpr ⟨by omega, by omega⟩
  have n3 : Nx q15_3 (Z n ds ot ⟨j.a, some (TI o), j8, j.d, j.e, j.f, j.g⟩ nm o0 w P told (wh + sameR ds told w o) (some (cts ((chain ds P).length + 1) f) :: some (RD (chP w o).1) :: some (.int (chP w o).2) :: j22 :: j23 :: []))
      (Z n ds ot ⟨j.a, some (TI o), j8, j.d, j.e, j.f, j.g⟩ nm o0 w P told (wh + sameR ds told w o) (some (cts ((chain ds P).length + 1) f) :: some (RD (chP w o).1) :: some (.int (chP w o).2) :: some (.int (((traceL ds o P).length : Int) - 1)) :: j23 :: [])) :=
    nx_set (ev_bin (ev_un (ev_call (av_cons (ev_var rfl) (av_cons (ev_var rfl) (av_cons (ev_var rfl) av_nil))) (fv_lhanded V.toVal (by omega) (by rw [O.len]; omega) hP)) (oLen_LI _)) ev_c (oSub_int _ _))
  generalize hz : ((traceL ds o P).length : Int) - 1 = z at hat n3
  have n4 : Nx q15_4 (Z n ds ot ⟨j.a, some (TI o), j8, j.d, j.e, j.f, j.g⟩ nm o0 w P told (wh + sameR ds told w o) (some (cts ((chain ds P).length + 1) f) :: some (RD (chP w o).1) :: some (.int (chP w o).2) :: some (.int z) :: j23 :: []))
      (Z n ds ot ⟨j.a, some (TI o), j8, j.d, j.e, j.f, j.g⟩ nm o0 w P told (wh + sameR ds told w o) (some (cts ((chain ds P).length + 1) fun y => if z = y then f z + chO w o else f y) :: some (RD (chP w o).1) :: some (.int (chP w o).2) :: some (.int z) :: j23 :: [])) :=
    nx_setIxR (f := f) (m := (chain ds P).length + 1) (ev_call (av_cons (ev_bin (ev_var rfl) (ev_var rfl) (cts_ix (f := f) hat)) (av_cons (ev_var rfl) av_nil)) (fv_lplus ((hf z).wd h4 (by omega)) wch)) (ev_var rfl) hat
  have ef : (fun y => if z = y then f z + chO w o else f y) = fun y => f y + atR ds w P y o := by
    funext y
    unfold atR
    rw [hz]
    by_cases q : z = y
    · rw [if_pos q, if_pos q, q]
    · rw [if_neg q, if_neg q, Rat.add_zero]
  rw [ef] at n4
  exact ⟨_, _, _, _, _, nx_seq n0 (nx_seq n1 (nx_seq n2 (nx_seq n3 (nx_seq n4 nx_nil))))⟩
theorem s15_ok (V : DVal n ds) (W : WV n w) (TVt : TV n told) (hP : P ∈ ran n) (h1 : 1 ≤ n) (h4 : n ≤ 4) (j : Jk) : ∃ i l, Nx pS15 (Z n ds ot j nm o0 w P told 0 (some (cts ((chain ds P).length + 1) fun _ => 0) :: no 4))
    (Z n ds ot i nm o0 w P told (sumR ((perms n).map (sameR ds told w))) (some (cts ((chain ds P).length + 1) fun z => sumR ((perms n).map (atR ds w P z))) :: l)) := by
  have hp := perms_len h1 h4
  obtain ⟨j', L⟩ := nx_forp (g := gVar 7) (w := wSeq (eVar 5)) (b := q15) (enc := TI) (xs := perms n) (S := fun (done : List (List Int)) (j : Jk × Option D × Option D × Option D × Option D) => Z n ds ot j.1 nm o0 w P told (sumR (done.map (sameR ds told w))) (some (cts ((chain ds P).length + 1) fun z => sumR (done.map (atR ds w P z))) :: j.2.1 :: j.2.2.1 :: j.2.2.2.1 :: j.2.2.2.2 :: [])) (j := (j, none, none, none, none)) (av_seqL (ev_var rfl)) fun done o rest j hd => by
    have ho : o ∈ perms n := by rw [← hd]; exact List.mem_append_right _ List.mem_cons_self
    have hdn : ∀ x ∈ done, x ∈ perms n := fun x hx => by rw [← hd]; exact List.mem_append_left _ hx
    have hl : done.length ≤ 24 := by
      have := congrArg List.length hd
      rw [List.length_append] at this
      omega
    have g0 : ∀ x ∈ done, G n 1 (chO w x) := fun x hx => chO_G W h4 (perms_ord h1 h4 (hdn x hx))
    have gw : G n done.length (sumR (done.map (sameR ds told w))) := sum_G done fun x hx => by
      unfold sameR
      split
      · exact g0 x hx
      · exact G.zero _ _
    have gf : ∀ z, G n done.length (sumR (done.map (atR ds w P z))) := fun z => sum_G done fun x hx => by
      unfold atR
      split
      · exact g0 x hx
      · exact G.zero _ _
    obtain ⟨i, i20, i21, i22, i23, N⟩ := q15_ok (ot := ot) (nm := nm) (o0 := o0) V W TVt hP h1 h4 (perms_ord h1 h4 ho) (by omega) gw gf j.1 j.2.1 j.2.2.1 j.2.2.2.1 j.2.2.2.2
    refine ⟨_, (i, i20, i21, i22, i23), rfl, ?_⟩
    have e1 : sumR ((done ++ [o]).map (sameR ds told w)) = sumR (done.map (sameR ds told w)) + sameR ds told w o := sum_snoc _ _ _
    have e2 : (fun z => sumR ((done ++ [o]).map (atR ds w P z))) = fun z => sumR (done.map (atR ds w P z)) + atR ds w P z o := funext fun z => sum_snoc _ _ _
    show Nx q15 _ (Z n ds ot i nm o0 w P told (sumR ((done ++ [o]).map (sameR ds told w))) (some (cts ((chain ds P).length + 1) fun z => sumR ((done ++ [o]).map (atR ds w P z))) :: i20 :: i21 :: i22 :: i23 :: []))
    rw [e1, e2]
    exact N
  exact ⟨j'.1, _, L⟩
theorem s16_ok (V : DVal n ds) (W : WV n w) (TVt : TV n told) (hP : P ∈ ran n) (h1 : 1 ≤ n) (h4 : n ≤ 4) (j : Jk) (l : Sl) : Rt pS16 (Z n ds ot j nm o0 w P told (sumR ((perms n).map (sameR ds told w))) (some (cts ((chain ds P).length + 1) fun z => sumR ((perms n).map (atR ds w P z))) :: l)) (.bl true) := by
  have hcl := chain_len V.toVal hP
  generalize hs : Z n ds ot j nm o0 w P told (sumR ((perms n).map (sameR ds told w))) (some (cts ((chain ds P).length + 1) fun z => sumR ((perms n).map (atR ds w P z))) :: l) = s
  have v3 : Ev (eVar 3) s (TI ds) := ev_var (by rw [← hs]; rfl)
  have v15 : Ev (eVar 15) s (TI w) := ev_var (by rw [← hs]; rfl)
  have v16 : Ev (eVar 16) s (.int P) := ev_var (by rw [← hs]; rfl)
  have v17 : Ev (eVar 17) s (.lst (told.map TP)) := ev_var (by rw [← hs]; rfl)
  have v18 : Ev (eVar 18) s (RD (sumR ((perms n).map (sameR ds told w)))) := ev_var (by rw [← hs]; rfl)
  have v19 : Ev (eVar 19) s (cts ((chain ds P).length + 1) fun z => sumR ((perms n).map (atR ds w P z))) := ev_var (by rw [← hs]; rfl)
  have a1 := ev_call (f := F_law_alike 6) (av_cons (ev_call (av_cons v3 (av_cons v15 (av_cons (ev_un (o := oTuple) (y := TT told) v17 rfl) av_nil))) (fv_told V W TVt h1 h4)) (av_cons v18 av_nil)) (alike_self 6 _ rfl)
  have pl : plainD 6 (.tup ((ran ((chain ds P).length + 1)).map fun j => RD (sumR ((perms n).map (atR ds w P j))))) = true := by
    show (decide (((ran ((chain ds P).length + 1)).map fun j => RD (sumR ((perms n).map (atR ds w P j)))).length ≤ 1000) && ((ran ((chain ds P).length + 1)).map fun j => RD (sumR ((perms n).map (atR ds w P j)))).all (plainD 5)) = true
    rw [List.length_map, ran_length, decide_eq_true (by omega), Bool.true_and, List.all_map, List.all_eq_true]
    intro x _
    rfl
  have a2 := ev_call (f := F_law_alike 6) (av_cons (ev_call (av_cons v3 (av_cons v15 (av_cons v16 av_nil))) (fv_hand V hP W h1 h4)) (av_cons (ev_un (o := oTuple) v19 rfl) av_nil)) (alike_self 6 _ pl)
  exact rt_ret (ev_and (k := true) (l := true) a1 fun _ => a2)
end
theorem law_rr : Rr b_law ([none, some .row] ++ List.replicate 22 none) (fun v => v = .bl true) := by
  rw [law_seq]
  refine rr_seq s0_ok fun s hs => ?_
  obtain ⟨n, h1, h4, rfl⟩ := hs
  refine rr_seq (s1_ok h1 h4) fun s hs => ?_
  obtain ⟨ds, ot, V, W, rfl⟩ := hs
  obtain ⟨j, key⟩ := s06_ok (ot := ot) V h1 h4 (no 18) rfl
  refine key _ _ ?_
  obtain ⟨j7, j14, N7⟩ := s7_ok (ot := ot) V h1 h4 j
  refine rr_nx N7 (rr_seq (s8_ok V W h1 h4 j7 j14) fun s hs => ?_)
  obtain ⟨ot', W', rfl⟩ := hs
  refine rr_nx (s9_ok V h1 h4 j7 j14) (rr_nx (s10_ok V W' h1 h4 j7 j14) (rr_seq (s11_ok h1 h4 j7 j14) fun s hs => ?_))
  obtain ⟨w, P, WW, hP, rfl⟩ := hs
  refine rr_seq (s12_ok h1 h4 j7 j14) fun s hs => ?_
  obtain ⟨o, ⟨ho, hol⟩, rfl⟩ := hs
  refine rr_seq (s13_ok V h1 h4 ho (by omega) j7) fun s hs => ?_
  obtain ⟨told, j13, TVt, rfl⟩ := hs
  obtain ⟨j15, l15, N15⟩ := s15_ok (ot := ot') (nm := LT (names n ds)) (o0 := o) V WW TVt hP h1 h4 j13
  exact rr_nx (s14_ok V h4 hP j13) (rr_nx N15 (rr_rt (s16_ok V WW TVt hP h1 h4 j15 l15) rfl))
theorem law_true (cells : List Int) : ∃ r', b_law ([none, some .row] ++ List.replicate 22 none) ⟨cells, 0, 13831, 0⟩ = some (.rt (.bl true) r') := by
  obtain ⟨v, r', e, rfl⟩ := law_rr ⟨cells, 0, 13831, 0⟩
  exact ⟨r', e⟩
end PL
end
section
set_option Elab.async false
set_option autoImplicit false
set_option linter.all false
set_option maxRecDepth 100000
set_option maxHeartbeats 1000000
/-! DL0: data in the abstract heap: Dv; the relation Rel between slots and heap on one side and data on the other. -/
namespace DL
open PySem PySem.Spec PyProof.Rows L2
abbrev St := L2.St

/-! ### keys -/
mutual
def key : PL.D → NestedKey
  | .non => .none
  | .bl b => .num (if b then 1 else 0)
  | .int i => .num i
  | .tup ds => .tup (keys ds)
  | .lst _ => .none
  | .dki _ => .none
  | .dkt _ => .none
  | .row => .none
def keys : List PL.D → List NestedKey
  | [] => []
  | d :: ds => key d :: keys ds
end
theorem keyOk_mono : ∀ (n : Nat) (d : PL.D), d.keyOk n = true → d.keyOk (n + 1) = true
  | 0, d, h => by cases d <;> first | rfl | (simp [PL.D.keyOk] at h)
  | n + 1, d, h => by
    cases d with
    | int i => rfl
    | tup ds =>
      have h : ds.all (PL.D.keyOk n) = true := by simpa [PL.D.keyOk] using h
      show ds.all (PL.D.keyOk (n + 1)) = true
      rw [List.all_eq_true] at h ⊢
      exact fun x hx => keyOk_mono n x (h x hx)
    | _ => simp [PL.D.keyOk] at h
mutual
theorem key_depth : ∀ (n : Nat) (d : PL.D), d.keyOk n = true → (key d).depth ≤ n
  | n, .int i, _ => by simp [key, NestedKey.depth]
  | 0, .tup ds, h => by simp [PL.D.keyOk] at h
  | n + 1, .tup ds, h => by
    have h : ds.all (PL.D.keyOk n) = true := by simpa [PL.D.keyOk] using h
    have := keys_depth n ds h
    simp only [key, NestedKey.depth]
    omega
  | n, .non, h => by cases n <;> simp [PL.D.keyOk] at h
  | n, .bl _, h => by cases n <;> simp [PL.D.keyOk] at h
  | n, .lst _, h => by cases n <;> simp [PL.D.keyOk] at h
  | n, .dki _, h => by cases n <;> simp [PL.D.keyOk] at h
  | n, .dkt _, h => by cases n <;> simp [PL.D.keyOk] at h
  | n, .row, h => by cases n <;> simp [PL.D.keyOk] at h
theorem keys_depth : ∀ (n : Nat) (ds : List PL.D), ds.all (PL.D.keyOk n) = true → NestedKey.depthAll (keys ds) ≤ n
  | n, [], _ => by simp [keys, NestedKey.depthAll]
  | n, d :: ds, h => by
    have h : d.keyOk n = true ∧ ds.all (PL.D.keyOk n) = true := by simpa using h
    have h1 := key_depth n d h.1
    have h2 := keys_depth n ds h.2
    simp only [keys, NestedKey.depthAll]
    omega
end
mutual
theorem key_beq : ∀ (n : Nat) (d e : PL.D), d.keyOk n = true → e.keyOk n = true → NestedKey.beq (key d) (key e) = d.beq e
  | n, .int i, .int j, _, _ => by
    simp only [key, NestedKey.beq, PL.D.beq]
    by_cases e : i = j <;> simp [e]
  | n, .int i, .tup es, _, _ => by simp [key, NestedKey.beq, PL.D.beq]
  | n, .tup ds, .int j, _, _ => by simp [key, NestedKey.beq, PL.D.beq]
  | 0, .tup ds, .tup es, h, _ => by simp [PL.D.keyOk] at h
  | n + 1, .tup ds, .tup es, h, h' => by
    have h : ds.all (PL.D.keyOk n) = true := by simpa [PL.D.keyOk] using h
    have h' : es.all (PL.D.keyOk n) = true := by simpa [PL.D.keyOk] using h'
    simp only [key, NestedKey.beq, PL.D.beq]
    exact keys_beq n ds es h h'
  | n, .non, _, h, _ => by cases n <;> simp [PL.D.keyOk] at h
  | n, .bl _, _, h, _ => by cases n <;> simp [PL.D.keyOk] at h
  | n, .lst _, _, h, _ => by cases n <;> simp [PL.D.keyOk] at h
  | n, .dki _, _, h, _ => by cases n <;> simp [PL.D.keyOk] at h
  | n, .dkt _, _, h, _ => by cases n <;> simp [PL.D.keyOk] at h
  | n, .row, _, h, _ => by cases n <;> simp [PL.D.keyOk] at h
  | n, .int _, .non, _, h => by cases n <;> simp [PL.D.keyOk] at h
  | n, .int _, .bl _, _, h => by cases n <;> simp [PL.D.keyOk] at h
  | n, .int _, .lst _, _, h => by cases n <;> simp [PL.D.keyOk] at h
  | n, .int _, .dki _, _, h => by cases n <;> simp [PL.D.keyOk] at h
  | n, .int _, .dkt _, _, h => by cases n <;> simp [PL.D.keyOk] at h
  | n, .int _, .row, _, h => by cases n <;> simp [PL.D.keyOk] at h
  | n, .tup _, .non, _, h => by cases n <;> simp [PL.D.keyOk] at h
  | n, .tup _, .bl _, _, h => by cases n <;> simp [PL.D.keyOk] at h
  | n, .tup _, .lst _, _, h => by cases n <;> simp [PL.D.keyOk] at h
  | n, .tup _, .dki _, _, h => by cases n <;> simp [PL.D.keyOk] at h
  | n, .tup _, .dkt _, _, h => by cases n <;> simp [PL.D.keyOk] at h
  | n, .tup _, .row, _, h => by cases n <;> simp [PL.D.keyOk] at h
theorem keys_beq : ∀ (n : Nat) (ds es : List PL.D), ds.all (PL.D.keyOk n) = true → es.all (PL.D.keyOk n) = true → NestedKey.beqAll (keys ds) (keys es) = PL.D.beqs ds es
  | n, [], [], _, _ => by simp [keys, NestedKey.beqAll, PL.D.beqs]
  | n, [], _ :: _, _, _ => by simp [keys, NestedKey.beqAll, PL.D.beqs]
  | n, _ :: _, [], _, _ => by simp [keys, NestedKey.beqAll, PL.D.beqs]
  | n, d :: ds, e :: es, h, h' => by
    have h : d.keyOk n = true ∧ ds.all (PL.D.keyOk n) = true := by simpa using h
    have h' : e.keyOk n = true ∧ es.all (PL.D.keyOk n) = true := by simpa using h'
    simp only [keys, NestedKey.beqAll, PL.D.beqs]
    rw [key_beq n d e h.1 h'.1, keys_beq n ds es h.2 h'.2]
end

/-! ### data in a heap -/
/-- the object of a dict with the entries xs, keys nested tuples -/
def DObj (P : Program) (w : World) (o : Obj) (xs : List (NestedKey × Addr × Value)) : Prop :=
  o.ExactDict ∧ (∃ es ep, o.data = .dict es ep ∧ es.toList = xs.map (entryOfKey (nestedKind P w))) ∧ (xs.map (·.1)).Nodup ∧ xs.length ≤ 1000
def exact (a : Addr) (o : Obj) : HO := .ext fun h => h.get? a = some o
variable (P : Program) (w : World)
mutual
inductive Dv (r0 : Addr) (G : Hp) : V → PL.D → Prop
  | non : Dv r0 G .non .non
  | bl (b : Bool) : Dv r0 G (.bl b) (.bl b)
  | int (i : Int) : Dv r0 G (.int i) (.int i)
  | tup {a : Addr} {xs : List V} {ds : List PL.D} : G a = some (.tup xs) → DvA r0 G xs ds → Dv r0 G (.ref a) (.tup ds)
  | lst {a : Addr} {xs : List V} {ds : List PL.D} : G a = some (.lst xs) → DvA r0 G xs ds → Dv r0 G (.ref a) (.lst ds)
  | dki {a : Addr} {kvs : List (Key × V)} {es : List (Int × PL.D)} : G a = some (.dK kvs) → DvI r0 G kvs es → Dv r0 G (.ref a) (.dki es)
  | dkt {a : Addr} {o : Obj} {xs : List (NestedKey × Addr × Value)} {es : List (PL.D × PL.D)} : G a = some (exact a o) → (a == sysModules) = false → DObj P w o xs → DvT r0 G xs es → Dv r0 G (.ref a) (.dkt es)
  | row : Dv r0 G (.ref r0) .row
inductive DvA (r0 : Addr) (G : Hp) : List V → List PL.D → Prop
  | nil : DvA r0 G [] []
  | cons {v : V} {d : PL.D} {vs : List V} {ds : List PL.D} : Dv r0 G v d → DvA r0 G vs ds → DvA r0 G (v :: vs) (d :: ds)
inductive DvI (r0 : Addr) (G : Hp) : List (Key × V) → List (Int × PL.D) → Prop
  | nil : DvI r0 G [] []
  | cons {k : Int} {v : V} {d : PL.D} {r : List (Key × V)} {s : List (Int × PL.D)} : Dv r0 G v d → DvI r0 G r s → DvI r0 G ((.inl k, v) :: r) ((k, d) :: s)
inductive DvT (r0 : Addr) (G : Hp) : List (NestedKey × Addr × Value) → List (PL.D × PL.D) → Prop
  | nil : DvT r0 G [] []
  | cons {b : Addr} {k d : PL.D} {v : V} {u : Value} {r : List (NestedKey × Addr × Value)} {s : List (PL.D × PL.D)} : Dv r0 G (.ref b) k → k.keyOk 3 = true → RelV v u → Dv r0 G v d → DvT r0 G r s → DvT r0 G ((key k, b, u) :: r) ((k, d) :: s)
end
variable {P : Program} {w : World}
section
variable {r0 : Addr} {G G' : Hp}
mutual
theorem Dv.mono (e : Same G G') : ∀ (d : PL.D) (v : V), Dv P w r0 G v d → Dv P w r0 G' v d
  | .non, _, h => by cases h; exact .non
  | .bl _, _, h => by cases h; exact .bl _
  | .int _, _, h => by cases h; exact .int _
  | .tup ds, _, h => by cases h with | tup h1 h2 => exact .tup (e _ _ h1) (DvA.mono e ds _ h2)
  | .lst ds, _, h => by cases h with | lst h1 h2 => exact .lst (e _ _ h1) (DvA.mono e ds _ h2)
  | .dki es, _, h => by cases h with | dki h1 h2 => exact .dki (e _ _ h1) (DvI.mono e es _ h2)
  | .dkt es, _, h => by cases h with | dkt h1 h2 h3 h4 => exact .dkt (e _ _ h1) h2 h3 (DvT.mono e es _ h4)
  | .row, _, h => by cases h; exact .row
theorem DvA.mono (e : Same G G') : ∀ (ds : List PL.D) (vs : List V), DvA P w r0 G vs ds → DvA P w r0 G' vs ds
  | [], _, h => by cases h; exact .nil
  | d :: ds, _, h => by cases h with | cons h1 h2 => exact .cons (Dv.mono e d _ h1) (DvA.mono e ds _ h2)
theorem DvI.mono (e : Same G G') : ∀ (es : List (Int × PL.D)) (kvs : List (Key × V)), DvI P w r0 G kvs es → DvI P w r0 G' kvs es
  | [], _, h => by cases h; exact .nil
  | (k, d) :: es, _, h => by cases h with | cons h1 h2 => exact .cons (Dv.mono e d _ h1) (DvI.mono e es _ h2)
theorem DvT.mono (e : Same G G') : ∀ (es : List (PL.D × PL.D)) (xs : List (NestedKey × Addr × Value)), DvT P w r0 G xs es → DvT P w r0 G' xs es
  | [], _, h => by cases h; exact .nil
  | (k, d) :: es, _, h => by cases h with | cons h1 h2 h3 h4 h5 => exact .cons (Dv.mono e k _ h1) h2 h3 (Dv.mono e d _ h4) (DvT.mono e es _ h5)
end
theorem DvA.length : ∀ {vs : List V} {ds : List PL.D}, DvA P w r0 G vs ds → vs.length = ds.length
  | _, _, .nil => rfl
  | _, _, .cons _ t => by rw [List.length_cons, List.length_cons, DvA.length t]
theorem DvA.append : ∀ {vs ws : List V} {ds es : List PL.D}, DvA P w r0 G vs ds → DvA P w r0 G ws es → DvA P w r0 G (vs ++ ws) (ds ++ es)
  | _, _, _, _, .nil, s => s
  | _, _, _, _, .cons h t, s => .cons h (DvA.append t s)
theorem DvA.get : ∀ {vs : List V} {ds : List PL.D} {i : Nat} {d : PL.D}, DvA P w r0 G vs ds → ds[i]? = some d → ∃ v, vs[i]? = some v ∧ Dv P w r0 G v d
  | _, _, _, _, .nil, e => by simp at e
  | _, _, 0, _, .cons h _, e => by simp at e; subst e; exact ⟨_, rfl, h⟩
  | _, _, i + 1, d, .cons _ t, e => by
    obtain ⟨v, h1, h2⟩ := DvA.get (i := i) t (by simpa using e)
    exact ⟨v, by simpa using h1, h2⟩
theorem DvA.getV : ∀ {vs : List V} {ds : List PL.D} {i : Nat} {v : V}, DvA P w r0 G vs ds → vs[i]? = some v → ∃ d, ds[i]? = some d ∧ Dv P w r0 G v d
  | _, _, _, _, .nil, e => by simp at e
  | _, _, 0, _, .cons h _, e => by simp at e; subst e; exact ⟨_, rfl, h⟩
  | _, _, i + 1, d, .cons _ t, e => by
    obtain ⟨v, h1, h2⟩ := DvA.getV (i := i) t (by simpa using e)
    exact ⟨v, by simpa using h1, h2⟩
theorem DvA.take : ∀ {vs : List V} {ds : List PL.D} (n : Nat), DvA P w r0 G vs ds → DvA P w r0 G (vs.take n) (ds.take n)
  | _, _, 0, _ => .nil
  | _, _, _ + 1, .nil => .nil
  | _, _, n + 1, .cons h t => .cons h (DvA.take n t)
theorem DvA.drop : ∀ {vs : List V} {ds : List PL.D} (n : Nat), DvA P w r0 G vs ds → DvA P w r0 G (vs.drop n) (ds.drop n)
  | _, _, 0, r => r
  | _, _, _ + 1, .nil => .nil
  | _, _, n + 1, .cons _ t => DvA.drop n t
theorem DvA.set {v : V} {d : PL.D} (h : Dv P w r0 G v d) : ∀ {vs : List V} {ds : List PL.D} (i : Nat), DvA P w r0 G vs ds → DvA P w r0 G (vs.set i v) (ds.set i d)
  | _, _, _, .nil => .nil
  | _, _, 0, .cons _ t => .cons h t
  | _, _, i + 1, .cons q t => .cons q (DvA.set h i t)
theorem dv_flat {d : PL.D} {v : V} (h : Dv P w r0 G v d) (hf : d.flat = true) : flatV v = true := by
  cases h <;> first | rfl | (simp [PL.D.flat] at hf)
theorem dv_ints : ∀ {vs : List V} {ds : List PL.D} {is : List Int}, DvA P w r0 G vs ds → PL.asInts ds = some is → vs = is.map V.int
  | _, _, is, .nil, e => by simp [PL.asInts] at e; subst e; rfl
  | _, _, is, .cons (v := v) (d := d) (ds := ds) h t, e => by
    cases h with
    | int i =>
      simp only [PL.asInts] at e
      cases q : PL.asInts ds with
      | none => rw [q] at e; cases e
      | some js =>
        rw [q] at e
        have e := Option.some.inj e
        subst e
        rw [dv_ints t q]
        rfl
    | _ => simp [PL.asInts] at e
theorem dva_ints : ∀ is : List Int, DvA P w r0 G (is.map V.int) (is.map PL.D.int)
  | [] => .nil
  | i :: is => .cons (.int i) (dva_ints is)
end

/-! ### data that == reads -/
mutual
def toP : PL.D → PyData
  | .non => .none
  | .bl b => .bool b
  | .int i => .int i
  | .tup ds => .tuple (toPs ds)
  | .lst ds => .list (toPs ds)
  | .dki _ => .none
  | .dkt _ => .none
  | .row => .none
def toPs : List PL.D → List PyData
  | [] => []
  | d :: ds => toP d :: toPs ds
end
theorem toPs_map : ∀ ds : List PL.D, toPs ds = ds.map toP
  | [] => rfl
  | d :: ds => by rw [toPs, toPs_map ds]; rfl
mutual
theorem toP_eqv : ∀ (n : Nat) (d e : PL.D), d.ok n = true → e.ok n = true → PyData.eqv (toP d) (toP e) = d.beq e
  | _, .non, .non, _, _ => rfl
  | _, .non, .bl _, _, _ => rfl
  | _, .non, .int _, _, _ => rfl
  | _, .bl _, .non, _, _ => rfl
  | _, .bl _, .bl _, _, _ => rfl
  | _, .bl _, .int _, _, _ => rfl
  | _, .int _, .non, _, _ => rfl
  | _, .int _, .bl _, _, _ => rfl
  | _, .int _, .int _, _, _ => rfl
  | n + 1, .non, .tup _, _, _ => rfl
  | n + 1, .non, .lst _, _, _ => rfl
  | n + 1, .bl _, .tup _, _, _ => rfl
  | n + 1, .bl _, .lst _, _, _ => rfl
  | n + 1, .int _, .tup _, _, _ => rfl
  | n + 1, .int _, .lst _, _, _ => rfl
  | n + 1, .tup _, .non, _, _ => rfl
  | n + 1, .lst _, .non, _, _ => rfl
  | n + 1, .tup _, .bl _, _, _ => rfl
  | n + 1, .lst _, .bl _, _, _ => rfl
  | n + 1, .tup _, .int _, _, _ => rfl
  | n + 1, .lst _, .int _, _, _ => rfl
  | n + 1, .tup _, .lst _, _, _ => rfl
  | n + 1, .lst _, .tup _, _, _ => rfl
  | n + 1, .tup ds, .tup es, h, h' => by
    have h : ds.all (PL.D.ok n) = true := by simpa [PL.D.ok] using h
    have h' : es.all (PL.D.ok n) = true := by simpa [PL.D.ok] using h'
    simp only [toP, PyData.eqv, PL.D.beq]
    exact toPs_eqv n ds es h h'
  | n + 1, .lst ds, .lst es, h, h' => by
    have h : ds.all (PL.D.ok n) = true := by simpa [PL.D.ok] using h
    have h' : es.all (PL.D.ok n) = true := by simpa [PL.D.ok] using h'
    simp only [toP, PyData.eqv, PL.D.beq]
    exact toPs_eqv n ds es h h'
  | 0, .tup _, _, h, _ => by simp [PL.D.ok] at h
  | 0, .lst _, _, h, _ => by simp [PL.D.ok] at h
  | 0, _, .tup _, _, h => by simp [PL.D.ok] at h
  | 0, _, .lst _, _, h => by simp [PL.D.ok] at h
  | n, .dki _, _, h, _ => by cases n <;> simp [PL.D.ok] at h
  | n, .dkt _, _, h, _ => by cases n <;> simp [PL.D.ok] at h
  | n, .row, _, h, _ => by cases n <;> simp [PL.D.ok] at h
  | n, _, .dki _, _, h => by cases n <;> simp [PL.D.ok] at h
  | n, _, .dkt _, _, h => by cases n <;> simp [PL.D.ok] at h
  | n, _, .row, _, h => by cases n <;> simp [PL.D.ok] at h
theorem toPs_eqv : ∀ (n : Nat) (ds es : List PL.D), ds.all (PL.D.ok n) = true → es.all (PL.D.ok n) = true → PyData.eqvAll (toPs ds) (toPs es) = PL.D.beqs ds es
  | _, [], [], _, _ => rfl
  | _, [], _ :: _, _, _ => rfl
  | _, _ :: _, [], _, _ => rfl
  | n, d :: ds, e :: es, h, h' => by
    have h : d.ok n = true ∧ ds.all (PL.D.ok n) = true := by simpa using h
    have h' : e.ok n = true ∧ es.all (PL.D.ok n) = true := by simpa using h'
    simp only [toPs, PyData.eqvAll, PL.D.beqs]
    rw [toP_eqv n d e h.1 h'.1, toPs_eqv n ds es h.2 h'.2]
end
mutual
theorem toP_lay : ∀ (n : Nat) (d : PL.D), d.ok n = true → (toP d).canLay0 = true ∧ (toP d).depth ≤ n
  | n, .non, _ => ⟨by simp [toP, PyData.canLay0], by simp [toP, PyData.depth]⟩
  | n, .bl _, _ => ⟨by simp [toP, PyData.canLay0], by simp [toP, PyData.depth]⟩
  | n, .int _, _ => ⟨by simp [toP, PyData.canLay0], by simp [toP, PyData.depth]⟩
  | n + 1, .tup ds, h => by
    have h : ds.all (PL.D.ok n) = true := by simpa [PL.D.ok] using h
    obtain ⟨a, b⟩ := toPs_lay n ds h
    exact ⟨by simpa [toP, PyData.canLay0] using a, by simp only [toP, PyData.depth]; omega⟩
  | n + 1, .lst ds, h => by
    have h : ds.all (PL.D.ok n) = true := by simpa [PL.D.ok] using h
    obtain ⟨a, b⟩ := toPs_lay n ds h
    exact ⟨by simpa [toP, PyData.canLay0] using a, by simp only [toP, PyData.depth]; omega⟩
  | 0, .tup _, h => by simp [PL.D.ok] at h
  | 0, .lst _, h => by simp [PL.D.ok] at h
  | n, .dki _, h => by cases n <;> simp [PL.D.ok] at h
  | n, .dkt _, h => by cases n <;> simp [PL.D.ok] at h
  | n, .row, h => by cases n <;> simp [PL.D.ok] at h
theorem toPs_lay : ∀ (n : Nat) (ds : List PL.D), ds.all (PL.D.ok n) = true → PyData.canLayAll0 (toPs ds) = true ∧ PyData.depthAll (toPs ds) ≤ n
  | n, [], _ => ⟨by simp [toPs, PyData.canLayAll0], by simp [toPs, PyData.depthAll]⟩
  | n, d :: ds, h => by
    have h : d.ok n = true ∧ ds.all (PL.D.ok n) = true := by simpa using h
    obtain ⟨a, b⟩ := toP_lay n d h.1
    obtain ⟨a', b'⟩ := toPs_lay n ds h.2
    exact ⟨by simp [toPs, PyData.canLayAll0, a, a'], by simp only [toPs, PyData.depthAll]; omega⟩
end
theorem toP_shaped {n : Nat} {d : PL.D} (h : d.ok n = true) (hn : n ≤ 64) : SeqAt.shaped (toP d) = true := by
  obtain ⟨a, b⟩ := toP_lay n d h
  show (PyData.canLay0 (toP d) && decide (PyData.depth (toP d) ≤ 64)) = true
  rw [Bool.and_eq_true]
  exact ⟨a, decide_eq_true (by omega)⟩
section
variable {K : PySem.W.Frag} {r0 : Addr} {G H : Hp}
mutual
theorem dv_dp (e : Same G H) : ∀ (n : Nat) (d : PL.D) (v : V), d.ok n = true → Dv P w r0 G v d → Dp K H v (toP d)
  | _, .non, _, _, h => by cases h; exact .non
  | _, .bl _, _, _, h => by cases h; exact .bl _
  | _, .int _, _, _, h => by cases h; exact .int _
  | n + 1, .tup ds, _, hk, h => by
    have hk : ds.all (PL.D.ok n) = true := by simpa [PL.D.ok] using hk
    cases h with | tup h1 h2 => exact .tup (SqT.of (e _ _ h1)) (dv_dps e n ds _ hk h2)
  | n + 1, .lst ds, _, hk, h => by
    have hk : ds.all (PL.D.ok n) = true := by simpa [PL.D.ok] using hk
    cases h with | lst h1 h2 => exact .lst (SqL.of (e _ _ h1)) (dv_dps e n ds _ hk h2)
  | 0, .tup _, _, h, _ => by simp [PL.D.ok] at h
  | 0, .lst _, _, h, _ => by simp [PL.D.ok] at h
  | n, .dki _, _, h, _ => by cases n <;> simp [PL.D.ok] at h
  | n, .dkt _, _, h, _ => by cases n <;> simp [PL.D.ok] at h
  | n, .row, _, h, _ => by cases n <;> simp [PL.D.ok] at h
theorem dv_dps (e : Same G H) : ∀ (n : Nat) (ds : List PL.D) (vs : List V), ds.all (PL.D.ok n) = true → DvA P w r0 G vs ds → DpAll K H vs (toPs ds)
  | _, [], _, _, h => by cases h; exact .nil
  | n, d :: ds, _, hk, h => by
    have hk : d.ok n = true ∧ ds.all (PL.D.ok n) = true := by simpa using hk
    cases h with | cons h1 h2 => exact .cons (dv_dp e n d _ hk.1 h1) (dv_dps e n ds _ hk.2 h2)
end
end

/-! ### the relation -/
/-- what is fixed while a def's body runs: the heap and the frozen part at the entry, what a comprehension protects, the draws' list and its script, the tables -/
structure Bs where
  H0 : Hp
  G0 : Hp
  tmp : Hp
  r0 : Addr
  scr : Addr
  cells : List Int
  tabs : List Addr
def RowAt (B : Bs) (H : Hp) (r : PL.Row) : Prop := r.cells = B.cells ∧ H B.r0 = some (.lst [.ref B.scr, .int (r.pos : Nat), .int r.seed, .int r.rest])
/-- all that H tracks but the draws' list and the tables stands in H' -/
def Keep (B : Bs) (H H' : Hp) : Prop := ∀ b o, H b = some o → b ≠ B.r0 → b ∉ B.tabs → H' b = some o
theorem Keep.trans {B : Bs} {H H1 H2 : Hp} (a : Keep B H H1) (b : Keep B H1 H2) : Keep B H H2 := fun c o h hr ht => b c o (a c o h hr ht) hr ht
theorem Keep.refl {B : Bs} {H : Hp} : Keep B H H := fun _ _ h _ _ => h
/-- an object that a slot owns: nothing else of the data leads to it -/
def OwnAt (P : Program) (w : World) (r0 : Addr) (H G : Hp) (a : Addr) : PL.D → Prop
  | .lst ds => ∃ xs, H a = some (.lst xs) ∧ DvA P w r0 G xs ds
  | .dki es => ∃ kvs, H a = some (.dK kvs) ∧ DvI P w r0 G kvs es
  | .dkt es => ∃ o xs, H a = some (exact a o) ∧ (a == sysModules) = false ∧ DObj P w o xs ∧ DvT P w r0 G xs es
  | _ => False
structure Rel (P : Program) (w : World) (B : Bs) (O : List Nat) (σ : St) (H G : Hp) (s : PL.Sl) (r : PL.Row) : Prop where
  len : s.length = σ.length
  sub : Same G H
  g0 : Same B.G0 G
  k0 : Keep B B.H0 H
  n0 : ∀ b, B.G0 b = none → B.H0 b ≠ none → G b = none
  row : RowAt B H r
  tab : ∀ p ∈ B.tabs, GxR.TabG H p
  tmp : ∀ b o, B.tmp b = some o → H b = some o ∧ G b = none
  pub : ∀ i d, i ∉ O → s[i]? = some (some d) → ∃ v, σ[i]? = some (some v) ∧ Dv P w B.r0 G v d
  own : ∀ i, i ∈ O → ∀ d, s[i]? = some (some d) → ∃ a, σ[i]? = some (some (.ref a)) ∧ G a = none ∧ B.H0 a = none ∧ B.tmp a = none ∧ OwnAt P w B.r0 H G a d
  inj : ∀ i j d e a, i ∈ O → j ∈ O → s[i]? = some (some d) → s[j]? = some (some e) → σ[i]? = some (some (.ref a)) → σ[j]? = some (some (.ref a)) → i = j
/-- what holds of the base alone -/
structure BOk (K : PySem.W.Frag) (B : Bs) : Prop where
  r0 : B.H0 B.r0 ≠ none
  r0' : B.G0 B.r0 = none
  r0t : B.r0 ∉ B.tabs
  tabs : ∀ p ∈ B.tabs, B.H0 p ≠ none
  tabs' : ∀ p ∈ B.tabs, B.G0 p = none
  tmp : ∀ b o, B.tmp b = some o → b ≠ B.r0 ∧ b ∉ B.tabs
  scr : (Rd B.H0 B.scr (.lst (B.cells.map V.int)) ∧ B.scr ≠ B.r0 ∧ B.scr ∉ B.tabs) ∨ ∀ H : Hp, SqL K H B.scr (B.cells.map V.int)
section
variable {K : PySem.W.Frag} {B : Bs} {O : List Nat} {σ : St} {H H' G G' : Hp} {s : PL.Sl} {r r' : PL.Row}
theorem Rel.r0 (R : Rel P w B O σ H G s r) (bo : BOk K B) : G B.r0 = none := R.n0 _ bo.r0' bo.r0
theorem OwnAt.mono {r0 : Addr} {a : Addr} (h : H a = H' a) (e : Same G G') : ∀ {d : PL.D}, OwnAt P w r0 H G a d → OwnAt P w r0 H' G' a d
  | .lst ds, ⟨xs, h1, h2⟩ => ⟨xs, h ▸ h1, h2.mono e⟩
  | .dki es, ⟨kvs, h1, h2⟩ => ⟨kvs, h ▸ h1, h2.mono e⟩
  | .dkt es, ⟨o, xs, h1, h2, h3, h4⟩ => ⟨o, xs, h ▸ h1, h2, h3, h4.mono e⟩
theorem OwnAt.some {r0 : Addr} {a : Addr} : ∀ {d : PL.D}, OwnAt P w r0 H G a d → ∃ o, H a = some o
  | .lst ds, ⟨xs, h1, _⟩ => ⟨_, h1⟩
  | .dki es, ⟨kvs, h1, _⟩ => ⟨_, h1⟩
  | .dkt es, ⟨o, xs, h1, _⟩ => ⟨_, h1⟩
/-- the step of an expression: all that is tracked is kept, the frozen part grows by what is new -/
structure Step (B : Bs) (H G H' G' : Hp) : Prop where
  g : Same G G'
  sub : Same G' H'
  k : Keep B H H'
  n : ∀ b, G b = none → H b ≠ none → G' b = none
theorem Step.refl (e : Same G H) : Step B H G H G := ⟨Same.refl _, e, Keep.refl, fun _ h _ => h⟩
theorem Rel.step (R : Rel P w B O σ H G s r) (bo : BOk K B) (S : Step B H G H' G') (row : RowAt B H' r') (tab : ∀ p ∈ B.tabs, GxR.TabG H' p) : Rel P w B O σ H' G' s r' where
  len := R.len
  sub := S.sub
  g0 := R.g0.trans S.g
  k0 := R.k0.trans S.k
  n0 := fun b h1 h2 => by
    refine S.n b (R.n0 b h1 h2) ?_
    by_cases hr : b = B.r0
    · subst hr; rw [R.row.2]; simp
    by_cases ht : b ∈ B.tabs
    · obtain ⟨ps, e, _⟩ := R.tab b ht
      rw [e]; simp
    cases q : B.H0 b with
    | none => exact absurd q h2
    | some o => rw [R.k0 b o q hr ht]; simp
  row := row
  tab := tab
  tmp := fun b o h => by
    obtain ⟨h1, h2⟩ := R.tmp b o h
    obtain ⟨h3, h4⟩ := bo.tmp b o h
    exact ⟨S.k b o h1 h3 h4, S.n b h2 (by rw [h1]; simp)⟩
  pub := fun i d hi hd => by
    obtain ⟨v, h1, h2⟩ := R.pub i d hi hd
    exact ⟨v, h1, h2.mono S.g⟩
  own := fun i hi d hd => by
    obtain ⟨a, h1, h2, h3, h4, h5⟩ := R.own i hi d hd
    obtain ⟨o, ho⟩ := h5.some
    have hr : a ≠ B.r0 := fun e => by subst e; exact bo.r0 h3
    have ht : a ∉ B.tabs := fun e => bo.tabs a e h3
    exact ⟨a, h1, S.n a h2 (by rw [ho]; simp), h3, h4, h5.mono (by rw [S.k a o ho hr ht, ho]) S.g⟩
  inj := R.inj
/-- a new object, frozen -/
theorem Rel.alloc {p : Addr} {o : HO} (R : Rel P w B O σ H G s r) (bo : BOk K B) (hp : H p = none) : Rel P w B O σ (upd H p o) (upd G p o) s r ∧ Same G (upd G p o) := by
  have gp : G p = none := by
    cases q : G p with
    | none => rfl
    | some u => rw [R.sub p u q] at hp; cases hp
  have nr : B.r0 ≠ p := fun e => by rw [← e, R.row.2] at hp; cases hp
  have gg : Same G (upd G p o) := fun b u h => by rw [upd_ne (ne_of_none h gp)]; exact h
  refine ⟨R.step bo ⟨gg, fun b u h => ?_, fun b u h _ _ => by rw [upd_ne (ne_of_none h hp)]; exact h, fun b h h2 => ?_⟩ ⟨R.row.1, by rw [upd_ne nr]; exact R.row.2⟩ fun q hq => ?_, gg⟩
  · by_cases e : b = p
    · subst e; rw [upd_same] at h ⊢; exact h
    · rw [upd_ne e] at h ⊢; exact R.sub b u h
  · by_cases e : b = p
    · subst e; exact absurd hp h2
    · rw [upd_ne e]; exact h
  · obtain ⟨ps, e, t⟩ := R.tab q hq
    exact ⟨ps, by rw [upd_ne (ne_of_none e hp)]; exact e, t⟩
/-- a new object that is tracked but not frozen -/
theorem Rel.track {p : Addr} {o : HO} (R : Rel P w B O σ H G s r) (bo : BOk K B) (hp : H p = none) : Rel P w B O σ (upd H p o) G s r := by
  have gp : G p = none := by
    cases q : G p with
    | none => rfl
    | some u => rw [R.sub p u q] at hp; cases hp
  have nr : B.r0 ≠ p := fun e => by rw [← e, R.row.2] at hp; cases hp
  refine R.step bo ⟨Same.refl _, fun b u h => ?_, fun b u h _ _ => by rw [upd_ne (ne_of_none h hp)]; exact h, fun b h _ => h⟩ ⟨R.row.1, by rw [upd_ne nr]; exact R.row.2⟩ fun q hq => ?_
  · rw [upd_ne (ne_of_none h gp)]; exact R.sub b u h
  · obtain ⟨ps, e, t⟩ := R.tab q hq
    exact ⟨ps, by rw [upd_ne (ne_of_none e hp)]; exact e, t⟩
theorem Rel.gnone {p : Addr} (R : Rel P w B O σ H G s r) (hp : H p = none) : G p = none := by
  cases q : G p with
  | none => rfl
  | some u => rw [R.sub p u q] at hp; cases hp
theorem Rel.h0none {p : Addr} (R : Rel P w B O σ H G s r) (hp : H p = none) : B.H0 p = none := by
  cases q : B.H0 p with
  | none => rfl
  | some u =>
    have hr : p ≠ B.r0 := fun e => by rw [e, R.row.2] at hp; cases hp
    have ht : p ∉ B.tabs := fun e => by obtain ⟨ps, e, _⟩ := R.tab p e; rw [e] at hp; cases hp
    rw [R.k0 p u q hr ht] at hp; cases hp
theorem Rel.tnone {p : Addr} (R : Rel P w B O σ H G s r) (hp : H p = none) : B.tmp p = none := by
  cases q : B.tmp p with
  | none => rfl
  | some u => rw [(R.tmp p u q).1] at hp; cases hp
/-- a value stored in a slot that owns nothing -/
theorem Rel.set {i : Nat} {v : V} {d : PL.D} (R : Rel P w B O σ H G s r) (hi : i ∉ O) (h : Dv P w B.r0 G v d) : Rel P w B O (σ.set i (some v)) H G (s.set i (some d)) r where
  len := by simpa using R.len
  sub := R.sub
  g0 := R.g0
  k0 := R.k0
  n0 := R.n0
  row := R.row
  tab := R.tab
  tmp := R.tmp
  pub := fun j e hj he => by
    by_cases q : i = j
    · subst q
      by_cases hl : i < s.length
      · rw [List.getElem?_set_self hl] at he
        cases he
        exact ⟨v, by rw [List.getElem?_set_self (by rw [← R.len]; exact hl)], h⟩
      · rw [List.getElem?_eq_none (by simpa using hl)] at he; cases he
    · rw [List.getElem?_set_ne q] at he ⊢
      exact R.pub j e hj he
  own := fun j hj e he => by
    have q : i ≠ j := fun z => hi (z ▸ hj)
    rw [List.getElem?_set_ne q] at he ⊢
    exact R.own j hj e he
  inj := fun j k d e a hj hk h1 h2 h3 h4 => by
    have q1 : i ≠ j := fun z => hi (z ▸ hj)
    have q2 : i ≠ k := fun z => hi (z ▸ hk)
    rw [List.getElem?_set_ne q1] at h1 h3
    rw [List.getElem?_set_ne q2] at h2 h4
    exact R.inj j k d e a hj hk h1 h2 h3 h4
/-- a slot owns the object at a -/
theorem Rel.setOwn {i : Nat} {a : Addr} {d : PL.D} (R : Rel P w B O σ H G s r) (ha : G a = none) (h0 : B.H0 a = none) (ht : B.tmp a = none) (h : OwnAt P w B.r0 H G a d)
    (hn : ∀ j, j ∈ O → j ≠ i → ∀ e, s[j]? = some (some e) → σ[j]? ≠ some (some (.ref a))) : Rel P w B (i :: O) (σ.set i (some (.ref a))) H G (s.set i (some d)) r where
  len := by simpa using R.len
  sub := R.sub
  g0 := R.g0
  k0 := R.k0
  n0 := R.n0
  row := R.row
  tab := R.tab
  tmp := R.tmp
  pub := fun j e hj he => by
    have q : i ≠ j := fun z => hj (by rw [z]; exact List.mem_cons_self)
    rw [List.getElem?_set_ne q] at he ⊢
    exact R.pub j e (fun z => hj (List.mem_cons_of_mem _ z)) he
  own := fun j hj e he => by
    by_cases q : i = j
    · subst q
      by_cases hl : i < s.length
      · rw [List.getElem?_set_self hl] at he
        cases he
        exact ⟨a, by rw [List.getElem?_set_self (by rw [← R.len]; exact hl)], ha, h0, ht, h⟩
      · rw [List.getElem?_eq_none (by simpa using hl)] at he; cases he
    · rw [List.getElem?_set_ne q] at he ⊢
      exact R.own j ((List.mem_cons.mp hj).resolve_left (fun z => q z.symm)) e he
  inj := fun j k d1 e b hj hk h1 h2 h3 h4 => by
    by_cases q1 : i = j
    · subst q1
      by_cases q2 : i = k
      · exact q2
      · rw [List.getElem?_set_ne q2] at h2 h4
        have hl : i < s.length := by
          rcases Nat.lt_or_ge i s.length with z | z
          · exact z
          · rw [List.getElem?_eq_none (by simpa using z)] at h1; cases h1
        rw [List.getElem?_set_self (by rw [← R.len]; exact hl)] at h3
        cases h3
        exact absurd h4 (hn k ((List.mem_cons.mp hk).resolve_left (fun z => q2 z.symm)) (fun z => q2 z.symm) e h2)
    · rw [List.getElem?_set_ne q1] at h1 h3
      have hj' := (List.mem_cons.mp hj).resolve_left (fun z => q1 z.symm)
      by_cases q2 : i = k
      · subst q2
        have hl : i < s.length := by
          rcases Nat.lt_or_ge i s.length with z | z
          · exact z
          · rw [List.getElem?_eq_none (by simpa using z)] at h2; cases h2
        rw [List.getElem?_set_self (by rw [← R.len]; exact hl)] at h4
        cases h4
        exact absurd h3 (hn j hj' (fun z => q1 z.symm) d1 h1)
      · rw [List.getElem?_set_ne q2] at h2 h4
        exact R.inj j k d1 e b hj' ((List.mem_cons.mp hk).resolve_left (fun z => q2 z.symm)) h1 h2 h3 h4
end
end DL
end
section
set_option Elab.async false
set_option autoImplicit false
set_option linter.all false
set_option maxRecDepth 100000
set_option maxHeartbeats 1000000
/-! DL1: expressions whose value is told by a function on data. -/
namespace DL
open PySem PySem.Spec PyProof.Rows L2

/-! ### readings by data -/
/-- what must hold so that an expression gives what f says -/
def tE (P : Program) (w : World) (K : PySem.W.Frag) (T : List Addr) (O : List Nat) (f : PL.Ex) : TE := fun σ H Q =>
  ∃ (B : Bs) (G : Hp) (s : PL.Sl) (r : PL.Row) (d : PL.D) (r' : PL.Row), B.tabs = T ∧ BOk K B ∧ Rel P w B O σ H G s r ∧ f s r = some (d, r') ∧
    ∀ v H' G', Rel P w B O σ H' G' s r' → Same G G' → Dv P w B.r0 G' v d → Q v H'
def tT (P : Program) (w : World) (K : PySem.W.Frag) (T : List Addr) (O : List Nat) (f : PL.Te) : TT := fun σ H Q =>
  ∃ (B : Bs) (G : Hp) (s : PL.Sl) (r : PL.Row) (k : Bool) (r' : PL.Row), B.tabs = T ∧ BOk K B ∧ Rel P w B O σ H G s r ∧ f s r = some (k, r') ∧
    ∀ H' G', Rel P w B O σ H' G' s r' → Same G G' → Q k H'
def tA (P : Program) (w : World) (K : PySem.W.Frag) (T : List Addr) (O : List Nat) (f : PL.Ar) : TA := fun σ H Q =>
  ∃ (B : Bs) (G : Hp) (s : PL.Sl) (r : PL.Row) (ds : List PL.D) (r' : PL.Row), B.tabs = T ∧ BOk K B ∧ Rel P w B O σ H G s r ∧ f s r = some (ds, r') ∧
    ∀ vs H' G', Rel P w B O σ H' G' s r' → Same G G' → DvA P w B.r0 G' vs ds → Q vs H'
abbrev DE (X : Cx) (T : List Addr) (O : List Nat) (e : Expr) (f : PL.Ex) : Prop := PE X e (tE X.prog X.w X.K T O f)
abbrev DT (X : Cx) (T : List Addr) (O : List Nat) (e : Expr) (f : PL.Te) : Prop := PT X e (tT X.prog X.w X.K T O f)
abbrev DPw (X : Cx) (T : List Addr) (O : List Nat) (e : Expr) (f : PL.Te) : Prop := PW X e (tT X.prog X.w X.K T O f)
abbrev DA (X : Cx) (T : List Addr) (O : List Nat) (es : List Expr) (f : PL.Ar) : Prop := PA X es (tA X.prog X.w X.K T O f)
/-- a comparison: as a value and as a test -/
structure DC (X : Cx) (T : List Addr) (O : List Nat) (e : Expr) (f : PL.Ex) : Prop where
  pe : DE X T O e f
  pt : DT X T O e (PL.tB f)

section
variable {X : Cx} {T : List Addr} {O : List Nat} {e a b c : Expr} {pos : Pos} {fa fb fc : PL.Ex}
theorem peI {t t' : TE} (h : PE X e t) (hi : ∀ σ H Q, t' σ H Q → t σ H Q) : PE X e t' := ⟨fun pins s σ H Q I q => h.run pins s σ H Q I (hi σ H Q q)⟩
theorem ptI {t t' : TT} (h : PT X e t) (hi : ∀ σ H Q, t' σ H Q → t σ H Q) : PT X e t' := ⟨fun pins s σ H Q I q => h.run pins s σ H Q I (hi σ H Q q)⟩
theorem pwI {t t' : TT} (h : PW X e t) (hi : ∀ σ H Q, t' σ H Q → t σ H Q) : PW X e t' := ⟨fun wh pins s σ H Q I q => h.run wh pins s σ H Q I (hi σ H Q q)⟩
theorem paI {es : List Expr} {t t' : TA} (h : PA X es t) (hi : ∀ σ H Q, t' σ H Q → t σ H Q) : PA X es t' := ⟨fun ps pins s σ H Q I q => h.run ps pins s σ H Q I (hi σ H Q q)⟩
/-- a bool's reading as a test's -/
theorem tB_tE {P : Program} {w : World} {K : PySem.W.Frag} {f : PL.Ex} {σ : St} {H : Hp} {Q : Bool → Hp → Prop} (h : tT P w K T O (PL.tB f) σ H Q) : tE P w K T O f σ H (fun x H' => ∃ k, x = .bl k ∧ Q k H') := by
  obtain ⟨B, G, s, r, k, r', hT, bo, R, hf, q⟩ := h
  unfold PL.tB at hf
  cases e : f s r with
  | none => rw [e] at hf; cases hf
  | some y =>
    obtain ⟨d, r1⟩ := y
    rw [e] at hf
    cases d with
    | bl k1 =>
      have e2 : (k1, r1) = (k, r') := Option.some.inj hf
      cases e2
      refine ⟨B, G, s, r, .bl k, r', hT, bo, R, e, fun v H' G' R' S D => ?_⟩
      cases D
      exact ⟨k, rfl, q H' G' R' S⟩
    | _ => cases hf

/-! ### names, constants -/
theorem de_var (i : Nat) {x : Str} (hO : i ∉ O := by decide) (hN : X.N[i]? = some x := by rfl) (hv : Vis X.env.scope x := by first | exact Or.inl rfl | exact Or.inr (Or.inl rfl) | exact Or.inr (Or.inr rfl))
    (hd : (x == ("__debug__" : Str)) = false := by decide) (hcd : (x == ("__classdict__" : Str)) = false := by decide) : DE X T O (.Name x pos) (PL.eVar i) := by
  refine peI (pe_var (i := i) hN hv hd hcd) fun σ H Q h => ?_
  obtain ⟨B, G, s, r, d, r', hT, bo, R, hf, q⟩ := h
  unfold PL.eVar at hf
  split at hf
  · rename_i d' e
    cases hf
    obtain ⟨v, h1, h2⟩ := R.pub i _ hO e
    exact ⟨v, h1, q v H G R (Same.refl _) h2⟩
  · cases hf
/-- the name of a slot that owns its object, for the rules that read it -/
theorem pe_own (i : Nat) {x : Str} (hN : X.N[i]? = some x := by rfl) (hv : Vis X.env.scope x := by first | exact Or.inl rfl | exact Or.inr (Or.inl rfl) | exact Or.inr (Or.inr rfl))
    (hd : (x == ("__debug__" : Str)) = false := by decide) (hcd : (x == ("__classdict__" : Str)) = false := by decide) : PE X (.Name x pos) (tVar i) := pe_var hN hv hd hcd
theorem de_c {d : PL.D} {v : V} (h : PE X e (tC v)) (hd : ∀ r0 G, Dv X.prog X.w r0 G v d) : DE X T O e (PL.eC d) := by
  refine peI h fun σ H Q h => ?_
  obtain ⟨B, G, s, r, d', r', hT, bo, R, hf, q⟩ := h
  cases hf
  exact q v H G R (Same.refl _) (hd _ _)
theorem de_int {i : Int} {j : Nat} : DE X T O (.Constant (.int i) j pos) (PL.eC (.int i)) := de_c pe_int fun _ _ => .int i
theorem de_bl {k : Bool} {j : Nat} : DE X T O (.Constant (.bool k) j pos) (PL.eC (.bl k)) := de_c pe_bl fun _ _ => .bl k
theorem de_non {j : Nat} : DE X T O (.Constant .none j pos) (PL.eC .non) := de_c pe_non fun _ _ => .non
theorem de_glob {x : Str} {i : Int} (hg : Gl X x) (hm : ∃ t, X.mg x = some (.int i t)) (hd : (x == ("__debug__" : Str)) = false := by decide) : DE X T O (.Name x pos) (PL.eC (.int i)) := by
  obtain ⟨t, e⟩ := hm
  exact de_c (pe_glob (v := .int i) hg e ⟨t, rfl⟩ hd) fun _ _ => .int i

/-! ### operators -/
/-- by values: the reading r says what o says -/
def Op2 (X : Cx) (T : List Addr) (r : R2) (o : PL.D → PL.D → Option PL.D) : Prop :=
  ∀ (B : Bs) (O : List Nat) (σ : St) (H G : Hp) (s : PL.Sl) (rw : PL.Row) (x y : V) (dx dy d : PL.D) (Q : VK), B.tabs = T → BOk X.K B → Rel X.prog X.w B O σ H G s rw → Dv X.prog X.w B.r0 G x dx → Dv X.prog X.w B.r0 G y dy → o dx dy = some d →
    (∀ v H' G', Rel X.prog X.w B O σ H' G' s rw → Same G G' → Dv X.prog X.w B.r0 G' v d → Q v H') → r x y H Q
def Op1 (X : Cx) (T : List Addr) (r : V → Hp → VK → Prop) (o : PL.D → Option PL.D) : Prop :=
  ∀ (B : Bs) (O : List Nat) (σ : St) (H G : Hp) (s : PL.Sl) (rw : PL.Row) (x : V) (dx d : PL.D) (Q : VK), B.tabs = T → BOk X.K B → Rel X.prog X.w B O σ H G s rw → Dv X.prog X.w B.r0 G x dx → o dx = some d →
    (∀ v H' G', Rel X.prog X.w B O σ H' G' s rw → Same G G' → Dv X.prog X.w B.r0 G' v d → Q v H') → r x H Q
theorem bin_some {f : PL.D → PL.D → Option PL.D} {a b : PL.Ex} {s : PL.Sl} {r r' : PL.Row} {d : PL.D} (h : PL.eBin f a b s r = some (d, r')) : ∃ x r1 y, a s r = some (x, r1) ∧ b s r1 = some (y, r') ∧ f x y = some d := by
  unfold PL.eBin at h
  split at h
  · cases h
  · rename_i x r1 ea
    split at h
    · cases h
    · rename_i y r2 eb
      split at h
      · cases h
      · rename_i z ef
        cases h
        exact ⟨x, r1, y, ea, eb, ef⟩
theorem un_some {f : PL.D → Option PL.D} {a : PL.Ex} {s : PL.Sl} {r r' : PL.Row} {d : PL.D} (h : PL.eUn f a s r = some (d, r')) : ∃ x, a s r = some (x, r') ∧ f x = some d := by
  unfold PL.eUn at h
  split at h
  · cases h
  · rename_i x r1 ea
    split at h
    · cases h
    · rename_i y ef
      cases h
      exact ⟨x, ea, ef⟩
theorem rd_bin {r : R2} {o : PL.D → PL.D → Option PL.D} (h : Op2 X T r o) {σ : St} {H : Hp} {Q : VK} (hq : tE X.prog X.w X.K T O (PL.eBin o fa fb) σ H Q) :
    tOp r (tE X.prog X.w X.K T O fa) (tE X.prog X.w X.K T O fb) σ H Q := by
  obtain ⟨B, G, s, rw, d, r', hT, bo, R, hf, q⟩ := hq
  obtain ⟨x, r1, y, ea, eb, ef⟩ := bin_some hf
  refine ⟨B, G, s, rw, x, r1, hT, bo, R, ea, fun v H1 G1 R1 S1 D1 => ?_⟩
  refine ⟨B, G1, s, r1, y, r', hT, bo, R1, eb, fun u H2 G2 R2 S2 D2 => ?_⟩
  exact h B O σ H2 G2 s r' v u x y d Q hT bo R2 (D1.mono S2) D2 ef fun v3 H3 G3 R3 S3 D3 => q v3 H3 G3 R3 ((S1.trans S2).trans S3) D3
def OpD (X : Cx) (T : List Addr) (f : Value → Value → Sem Value) (o : PL.D → PL.D → Option PL.D) : Prop := ∃ r, OpR X f r ∧ Op2 X T r o
theorem de_bin {op : Operator} {o : PL.D → PL.D → Option PL.D} (h : OpD X T (binaryOp op) o) (ha : DE X T O a fa) (hb : DE X T O b fb) : DE X T O (.BinOp a op b pos) (PL.eBin o fa fb) := by
  obtain ⟨r, h1, h2⟩ := h
  exact peI (pe_op h1 ha hb) fun σ H Q hq => rd_bin h2 hq
theorem de_neg (ha : DE X T O a fa) : DE X T O (.UnaryOp .USub a pos) (PL.eUn PL.oNeg fa) := by
  refine peI (pe_un un_neg ha) fun σ H Q hq => ?_
  obtain ⟨B, G, s, rw, d, r', hT, bo, R, hf, q⟩ := hq
  obtain ⟨x, ea, ef⟩ := un_some hf
  refine ⟨B, G, s, rw, x, r', hT, bo, R, ea, fun v H1 G1 R1 S1 D1 => ?_⟩
  cases D1 with
  | int i =>
    cases ef
    exact ⟨i, rfl, q _ H1 G1 R1 S1 (.int _)⟩
  | _ => cases ef
theorem cmp_of {r : R2} {o : PL.D → PL.D → Option PL.D} {op : CmpOp} {ta tb : TE} (ho : OpR X (compareOp op) r) (ha : PE X a ta) (hb : PE X b tb) (hm : behindInMarks op b = false) {f : PL.Ex}
    (hr : ∀ σ H Q, tE X.prog X.w X.K T O f σ H Q → tOp r ta tb σ H Q) : DC X T O (.Compare a [op] [b] pos) f :=
  ⟨peI (pe_cmpR ho ha hb hm) hr, ptI (pt_cmpR ho ha hb hm) fun σ H Q q => hr σ H _ (tB_tE q)⟩
theorem dc_cmp {op : CmpOp} {o : PL.D → PL.D → Option PL.D} (h : OpD X T (compareOp op) o) (ha : DE X T O a fa) (hb : DE X T O b fb) (hm : behindInMarks op b = false) : DC X T O (.Compare a [op] [b] pos) (PL.eBin o fa fb) := by
  obtain ⟨r, h1, h2⟩ := h
  exact cmp_of (o := o) h1 ha hb hm fun σ H Q hq => rd_bin h2 hq
theorem dc_chain {op op' : CmpOp} {o o' : PL.D → PL.D → Option PL.D} (h : OpD X T (compareOp op) o) (h' : OpD X T (compareOp op') o') (ha : DE X T O a fa) (hb : DE X T O b fb) (hc : DE X T O c fc)
    (hm : lastMarks [op, op'] [b, c] = false := by with_unfolding_all rfl) : DC X T O (.Compare a [op, op'] [b, c] pos) (PL.eChain o o' fa fb fc) := by
  obtain ⟨r, h1, h2⟩ := h
  obtain ⟨r', h1', h2'⟩ := h'
  have rd : ∀ σ H Q, tE X.prog X.w X.K T O (PL.eChain o o' fa fb fc) σ H Q → tChain r r' (tE X.prog X.w X.K T O fa) (tE X.prog X.w X.K T O fb) (tE X.prog X.w X.K T O fc) σ H Q := by
    intro σ H Q hq
    obtain ⟨B, G, s, rw, d, rE, hT, bo, R, hf, q⟩ := hq
    unfold PL.eChain at hf
    split at hf
    · cases hf
    · rename_i x r1 ea
      split at hf
      · cases hf
      · rename_i y r2 eb
        refine ⟨B, G, s, rw, x, r1, hT, bo, R, ea, fun v H1 G1 R1 S1 D1 => ?_⟩
        refine ⟨B, G1, s, r1, y, r2, hT, bo, R1, eb, fun u H2 G2 R2 S2 D2 => ?_⟩
        split at hf
        · rename_i ef
          refine h2 B O σ H2 G2 s r2 v u x y (.bl true) _ hT bo R2 (D1.mono S2) D2 ef fun v3 H3 G3 R3 S3 D3 => ?_
          cases D3
          refine ⟨true, rfl, ?_⟩
          rw [if_pos rfl]
          split at hf
          · cases hf
          · rename_i z r3 ec
            split at hf
            · cases hf
            · rename_i w' eg
              cases hf
              refine ⟨B, G3, s, r2, z, rE, hT, bo, R3, ec, fun v4 H4 G4 R4 S4 D4 => ?_⟩
              exact h2' B O σ H4 G4 s rE u v4 y z _ Q hT bo R4 ((D2.mono S3).mono S4) D4 eg fun v5 H5 G5 R5 S5 D5 => q v5 H5 G5 R5 ((((S1.trans S2).trans S3).trans S4).trans S5) D5
        · rename_i ef
          cases hf
          refine h2 B O σ H2 G2 s rE v u x y (.bl false) _ hT bo R2 (D1.mono S2) D2 ef fun v3 H3 G3 R3 S3 D3 => ?_
          cases D3
          refine ⟨false, rfl, ?_⟩
          rw [if_neg Bool.false_ne_true]
          exact q _ H3 G3 R3 ((S1.trans S2).trans S3) (.bl false)
        · cases hf
  exact ⟨peI (pe_chain h1 h1' ha hb hc hm) rd, ptI (pt_chain h1 h1' ha hb hc hm) fun σ H Q q => rd σ H _ (tB_tE q)⟩
theorem dv_non_iff {P : Program} {w : World} {r0 : Addr} {G : Hp} {x : V} {d : PL.D} (h : Dv P w r0 G x d) : decide (x = .non) = PL.isNon d := by
  cases h <;> rfl
theorem dc_isN {j : Nat} {p2 : Pos} (ha : DE X T O a fa) : DC X T O (.Compare a [.Is] [.Constant .none j p2] pos) (PL.eIsN fa) := by
  have rd : ∀ σ H Q, tE X.prog X.w X.K T O (PL.eIsN fa) σ H Q → tOp (fun x y H Q => y = .non ∧ Q (.bl (decide (x = .non))) H) (tE X.prog X.w X.K T O fa) (tC .non) σ H Q := by
    intro σ H Q hq
    obtain ⟨B, G, s, rw, d, r', hT, bo, R, hf, q⟩ := hq
    unfold PL.eIsN at hf
    split at hf
    · rename_i x r1 ea
      cases hf
      refine ⟨B, G, s, rw, x, r', hT, bo, R, ea, fun v H1 G1 R1 S1 D1 => ⟨rfl, ?_⟩⟩
      rw [dv_non_iff D1]
      exact q _ H1 G1 R1 S1 (.bl _)
    · cases hf
  exact ⟨peI (pe_cmpR op_isN ha pe_non (nomark _)) rd, ptI (pt_cmpR op_isN ha pe_non (nomark _)) fun σ H Q q => rd σ H _ (tB_tE q)⟩
theorem dc_notN {j : Nat} {p2 : Pos} (ha : DE X T O a fa) : DC X T O (.Compare a [.IsNot] [.Constant .none j p2] pos) (PL.eNotN fa) := by
  have rd : ∀ σ H Q, tE X.prog X.w X.K T O (PL.eNotN fa) σ H Q → tOp (fun x y H Q => y = .non ∧ Q (.bl (!decide (x = .non))) H) (tE X.prog X.w X.K T O fa) (tC .non) σ H Q := by
    intro σ H Q hq
    obtain ⟨B, G, s, rw, d, r', hT, bo, R, hf, q⟩ := hq
    unfold PL.eNotN at hf
    split at hf
    · rename_i x r1 ea
      cases hf
      refine ⟨B, G, s, rw, x, r', hT, bo, R, ea, fun v H1 G1 R1 S1 D1 => ⟨rfl, ?_⟩⟩
      rw [dv_non_iff D1]
      exact q _ H1 G1 R1 S1 (.bl _)
    · cases hf
  exact ⟨peI (pe_cmpR op_notN ha pe_non (nomark _)) rd, ptI (pt_cmpR op_notN ha pe_non (nomark _)) fun σ H Q q => rd σ H _ (tB_tE q)⟩

/-! ### the operators on data -/
theorem d_oAdd : OpD X T (binaryOp .Add) PL.oAdd := ⟨_, op_add, fun B O σ H G s rw x y dx dy d Q hT bo R hx hy ho q => by
  cases hx <;> cases hy <;> first | cases ho; exact ⟨_, _, rfl, rfl, q _ H G R (Same.refl _) (.int _)⟩ | cases ho⟩
theorem d_oSub : OpD X T (binaryOp .Sub) PL.oSub := ⟨_, op_sub, fun B O σ H G s rw x y dx dy d Q hT bo R hx hy ho q => by
  cases hx <;> cases hy <;> first | cases ho; exact ⟨_, _, rfl, rfl, q _ H G R (Same.refl _) (.int _)⟩ | cases ho⟩
theorem d_oMul : OpD X T (binaryOp .Mult) PL.oMul := ⟨_, op_mulW, fun B O σ H G s rw x y dx dy d Q hT bo R hx hy ho q => by
  cases hx <;> cases hy <;> first
    | (rename_i i j
       have ho : (if i.natAbs < PL.wideN ∧ j.natAbs < PL.wideN then some (PL.D.int (i * j)) else none) = some d := ho
       split at ho
       · rename_i hc
         cases ho
         exact ⟨i, j, rfl, rfl, wide_mul (a := 4000) (b := 4000) hc.1 hc.2 (by decide) (by decide) (by decide), q _ H G R (Same.refl _) (.int _)⟩
       · cases ho)
    | cases ho⟩
theorem d_oDivW : OpD X T (binaryOp .FloorDiv) PL.oDivW := ⟨_, op_fdivW, fun B O σ H G s rw x y dx dy d Q hT bo R hx hy ho q => by
  cases hx <;> cases hy <;> first
    | (rename_i i j
       have ho : (if 0 < j ∧ j.natAbs < PL.wideN then some (PL.D.int (i / j)) else none) = some d := ho
       split at ho
       · rename_i hc
         cases ho
         exact ⟨i, j, rfl, rfl, wide_div (b := 4000) hc.1 hc.2 (by decide) (by decide), q _ H G R (Same.refl _) (.int _)⟩
       · cases ho)
    | cases ho⟩
theorem d_oMod : OpD X T (binaryOp .Mod) PL.oMod := ⟨_, op_modN, fun B O σ H G s rw x y dx dy d Q hT bo R hx hy ho q => by
  cases hx <;> cases hy <;> first
    | (rename_i i j
       have ho : (if j = 0 then none else some (PL.D.int (i.fmod j))) = some d := ho
       split at ho
       · cases ho
       · rename_i hc
         cases ho
         exact ⟨i, j, rfl, rfl, hc, q _ H G R (Same.refl _) (.int _)⟩)
    | cases ho⟩
theorem d_oPow : OpD X T (binaryOp .Pow) PL.oPow := ⟨_, op_pow, fun B O σ H G s rw x y dx dy d Q hT bo R hx hy ho q => by
  cases hx <;> cases hy <;> first
    | (rename_i i j
       have ho : (if 0 ≤ j ∧ j ≤ 1000 ∧ i.natAbs < 1000 then some (PL.D.int (i ^ j.toNat)) else none) = some d := ho
       split at ho
       · rename_i hc
         cases ho
         exact ⟨i, j, rfl, rfl, ⟨hc.1, by have := hc.2.1; omega, by have := hc.2.2; omega⟩, q _ H G R (Same.refl _) (.int _)⟩
       · cases ho)
    | cases ho⟩
theorem len1000 : (1000 : Nat) ≤ sizeLine := by decide
theorem d_oCatT : OpD X T (binaryOp .Add) PL.oCatT := ⟨_, op_catA, fun B O σ H G s rw x y dx dy d Q hT bo R hx hy ho q => by
  cases hx <;> cases hy <;> first
    | (rename_i a xs ds ha da b ys es hb db
       have ho : (if ds.length + es.length ≤ 1000 then some (PL.D.tup (ds ++ es)) else none) = some d := ho
       split at ho
       · rename_i hc
         cases ho
         have l1 := da.length
         have l2 := db.length
         refine ⟨a, b, xs, ys, rfl, rfl, SqT.of (R.sub _ _ ha), SqT.of (R.sub _ _ hb), by have := len1000; omega, fun hx => ?_, fun _ hy => ?_, fun _ _ p hp => ?_⟩
         · subst hx
           have : ds = [] := by cases da; rfl
           subst this
           exact q _ H G R (Same.refl _) (.tup hb db)
         · subst hy
           have : es = [] := by cases db; rfl
           subst this
           rw [List.append_nil] at q
           exact q _ H G R (Same.refl _) (.tup ha da)
         · obtain ⟨R', S'⟩ := R.alloc (o := .tup (xs ++ ys)) bo hp
           exact q _ _ _ R' S' (.tup upd_same ((da.append db).mono S'))
       · cases ho)
    | cases ho⟩
theorem d_oCatL : OpD X T (binaryOp .Add) PL.oCatL := ⟨_, op_cat, fun B O σ H G s rw x y dx dy d Q hT bo R hx hy ho q => by
  cases hx <;> cases hy <;> first
    | (rename_i a xs ds ha da b ys es hb db
       have ho : (if ds.length + es.length ≤ 1000 then some (PL.D.lst (ds ++ es)) else none) = some d := ho
       split at ho
       · rename_i hc
         cases ho
         have l1 := da.length
         have l2 := db.length
         refine ⟨a, b, xs, ys, rfl, rfl, R.sub _ _ ha, R.sub _ _ hb, by have := len1000; omega, fun p hp => ?_⟩
         obtain ⟨R', S'⟩ := R.alloc (o := .lst (xs ++ ys)) bo hp
         exact q _ _ _ R' S' (.lst upd_same ((da.append db).mono S'))
       · cases ho)
    | cases ho⟩
theorem d_oLt : OpD X T (compareOp .Lt) PL.oLt := ⟨_, op_lt, fun B O σ H G s rw x y dx dy d Q hT bo R hx hy ho q => by
  cases hx <;> cases hy <;> first | cases ho; exact ⟨_, _, rfl, rfl, q _ H G R (Same.refl _) (.bl _)⟩ | cases ho⟩
theorem d_oLe : OpD X T (compareOp .LtE) PL.oLe := ⟨_, op_le, fun B O σ H G s rw x y dx dy d Q hT bo R hx hy ho q => by
  cases hx <;> cases hy <;> first | cases ho; exact ⟨_, _, rfl, rfl, q _ H G R (Same.refl _) (.bl _)⟩ | cases ho⟩
theorem d_oGt : OpD X T (compareOp .Gt) PL.oGt := ⟨_, op_gt, fun B O σ H G s rw x y dx dy d Q hT bo R hx hy ho q => by
  cases hx <;> cases hy <;> first | cases ho; exact ⟨_, _, rfl, rfl, q _ H G R (Same.refl _) (.bl _)⟩ | cases ho⟩
theorem d_oGe : OpD X T (compareOp .GtE) PL.oGe := ⟨_, op_ge, fun B O σ H G s rw x y dx dy d Q hT bo R hx hy ho q => by
  cases hx <;> cases hy <;> first | cases ho; exact ⟨_, _, rfl, rfl, q _ H G R (Same.refl _) (.bl _)⟩ | cases ho⟩
theorem d_oEq (hu : X.A.units + 64 < cLine) : OpD X T (compareOp .Eq) PL.oEq := ⟨_, op_eqD hu, fun B O σ H G s rw x y dx dy d Q hT bo R hx hy ho q => by
  unfold PL.oEq at ho
  split at ho
  · rename_i hc
    cases ho
    obtain ⟨c1, c2⟩ := Bool.and_eq_true_iff.mp hc
    refine ⟨toP dx, toP dy, dv_dp R.sub 8 dx x c1 hx, dv_dp R.sub 8 dy y c2 hy, toP_shaped c1 (by decide), toP_shaped c2 (by decide), ?_⟩
    rw [toP_eqv 8 dx dy c1 c2]
    exact q _ H G R (Same.refl _) (.bl _)
  · cases ho⟩
theorem d_oNe (hu : X.A.units + 64 < cLine) : OpD X T (compareOp .NotEq) PL.oNe := ⟨_, op_neD hu, fun B O σ H G s rw x y dx dy d Q hT bo R hx hy ho q => by
  unfold PL.oNe at ho
  split at ho
  · rename_i hc
    cases ho
    obtain ⟨c1, c2⟩ := Bool.and_eq_true_iff.mp hc
    refine ⟨toP dx, toP dy, dv_dp R.sub 8 dx x c1 hx, dv_dp R.sub 8 dy y c2 hy, toP_shaped c1 (by decide), toP_shaped c2 (by decide), ?_⟩
    rw [toP_eqv 8 dx dy c1 c2]
    exact q _ H G R (Same.refl _) (.bl _)
  · cases ho⟩
theorem eqV_beq {P : Program} {w : World} {r0 : Addr} {G : Hp} {x y : V} {dx dy : PL.D} (hx : Dv P w r0 G x dx) (hy : Dv P w r0 G y dy) (fx : dx.flat = true) (fy : dy.flat = true) : eqV x y = dx.beq dy := by
  cases hx <;> first | (simp [PL.D.flat] at fx; done) | (cases hy <;> first | (simp [PL.D.flat] at fy; done) | simp [eqV, PL.D.beq])
theorem flats {P : Program} {w : World} {r0 : Addr} {G : Hp} : ∀ {vs : List V} {ds : List PL.D}, DvA P w r0 G vs ds → ds.all PL.D.flat = true → vs.all flatV = true
  | _, _, .nil, _ => rfl
  | _, _, .cons (d := d) (ds := ds) h t, e => by
    obtain ⟨e1, e2⟩ := Bool.and_eq_true_iff.mp (show (d.flat && ds.all PL.D.flat) = true from e)
    rw [List.all_cons, dv_flat h e1, flats t e2]
    rfl
theorem inV_any {P : Program} {w : World} {r0 : Addr} {G : Hp} {x : V} {dx : PL.D} (hx : Dv P w r0 G x dx) (fx : dx.flat = true) : ∀ {vs : List V} {ds : List PL.D}, DvA P w r0 G vs ds → ds.all PL.D.flat = true → inV x vs = ds.any fun y => y.beq dx
  | _, _, .nil, _ => rfl
  | _, _, .cons (d := d) (vs := vs) (ds := ds) h t, e => by
    obtain ⟨e1, e2⟩ := Bool.and_eq_true_iff.mp (show (d.flat && ds.all PL.D.flat) = true from e)
    have ih := inV_any hx fx t e2
    unfold inV at ih ⊢
    rw [List.any_cons, List.any_cons, ih, eqV_beq h hx e1 fx]
theorem d_oIn : OpD X T (compareOp .In) PL.oIn := ⟨_, op_in_seq, fun B O σ H G s rw x y dx dy d Q hT bo R hx hy ho q => by
  cases hy with
  | lst ha da =>
    rename_i a xs ds
    have ho : (if (dx.flat && ds.all PL.D.flat) = true then some (PL.D.bl (ds.any fun y => y.beq dx)) else none) = some d := by cases dx <;> exact ho
    split at ho
    · rename_i hc
      cases ho
      obtain ⟨c1, c2⟩ := Bool.and_eq_true_iff.mp hc
      refine ⟨a, xs, rfl, .inl (SqL.of (R.sub _ _ ha)), dv_flat hx c1, flats da c2, ?_⟩
      rw [if_neg Bool.false_ne_true, inV_any hx c1 da c2]
      exact q _ H G R (Same.refl _) (.bl _)
    · cases ho
  | tup ha da =>
    rename_i a xs ds
    have ho : (if (dx.flat && ds.all PL.D.flat) = true then some (PL.D.bl (ds.any fun y => y.beq dx)) else none) = some d := by cases dx <;> exact ho
    split at ho
    · rename_i hc
      cases ho
      obtain ⟨c1, c2⟩ := Bool.and_eq_true_iff.mp hc
      refine ⟨a, xs, rfl, .inr (SqT.of (R.sub _ _ ha)), dv_flat hx c1, flats da c2, ?_⟩
      rw [if_neg Bool.false_ne_true, inV_any hx c1 da c2]
      exact q _ H G R (Same.refl _) (.bl _)
    · cases ho
  | _ => cases dx <;> cases ho⟩
theorem d_oNotIn : OpD X T (compareOp .NotIn) PL.oNotIn := ⟨_, op_notIn_seq, fun B O σ H G s rw x y dx dy d Q hT bo R hx hy ho q => by
  cases hy with
  | lst ha da =>
    rename_i a xs ds
    have ho : (if (dx.flat && ds.all PL.D.flat) = true then some (PL.D.bl (!ds.any fun y => y.beq dx)) else none) = some d := by cases dx <;> exact ho
    split at ho
    · rename_i hc
      cases ho
      obtain ⟨c1, c2⟩ := Bool.and_eq_true_iff.mp hc
      refine ⟨a, xs, rfl, .inl (SqL.of (R.sub _ _ ha)), dv_flat hx c1, flats da c2, ?_⟩
      rw [if_pos rfl, inV_any hx c1 da c2]
      exact q _ H G R (Same.refl _) (.bl _)
    · cases ho
  | tup ha da =>
    rename_i a xs ds
    have ho : (if (dx.flat && ds.all PL.D.flat) = true then some (PL.D.bl (!ds.any fun y => y.beq dx)) else none) = some d := by cases dx <;> exact ho
    split at ho
    · rename_i hc
      cases ho
      obtain ⟨c1, c2⟩ := Bool.and_eq_true_iff.mp hc
      refine ⟨a, xs, rfl, .inr (SqT.of (R.sub _ _ ha)), dv_flat hx c1, flats da c2, ?_⟩
      rw [if_pos rfl, inV_any hx c1 da c2]
      exact q _ H G R (Same.refl _) (.bl _)
    · cases ho
  | _ => cases dx <;> cases ho⟩
theorem any_toP {n : Nat} {dx : PL.D} (hx : dx.ok n = true) : ∀ {ds : List PL.D}, ds.all (PL.D.ok n) = true → ((toPs ds).any fun z => PyData.eqv z (toP dx)) = ds.any fun y => y.beq dx
  | [], _ => rfl
  | d :: ds, h => by
    have h : d.ok n = true ∧ ds.all (PL.D.ok n) = true := by simpa using h
    rw [toPs, List.any_cons, List.any_cons, any_toP hx h.2, toP_eqv n d dx h.1 hx]
theorem d_oInD (hu : X.A.units + 65 < cLine) : OpD X T (compareOp .In) PL.oInD := ⟨_, op_inD hu, fun B O σ H G s rw x y dx dy d Q hT bo R hx hy ho q => by
  cases hy with
  | lst ha da =>
    rename_i a xs ds
    have ho : (if (dx.ok 7 && ds.all (PL.D.ok 7)) = true then some (PL.D.bl (ds.any fun y => y.beq dx)) else none) = some d := by cases dx <;> exact ho
    split at ho
    · rename_i hc
      cases ho
      obtain ⟨c1, c2⟩ := Bool.and_eq_true_iff.mp hc
      have ok8 : (PL.D.lst ds).ok 8 = true := c2
      refine ⟨toP dx, toPs ds, dv_dp R.sub 7 dx x c1 hx, .lst (SqL.of (R.sub _ _ ha)) (dv_dps R.sub 7 ds xs c2 da), toP_shaped c1 (by decide), toP_shaped ok8 (by decide), ?_⟩
      rw [any_toP c1 c2]
      exact q _ H G R (Same.refl _) (.bl _)
    · cases ho
  | _ => cases dx <;> cases ho⟩
theorem d_oNotInD (hu : X.A.units + 65 < cLine) : OpD X T (compareOp .NotIn) PL.oNotInD := ⟨_, op_notInD hu, fun B O σ H G s rw x y dx dy d Q hT bo R hx hy ho q => by
  cases hy with
  | lst ha da =>
    rename_i a xs ds
    have ho : (if (dx.ok 7 && ds.all (PL.D.ok 7)) = true then some (PL.D.bl (!ds.any fun y => y.beq dx)) else none) = some d := by cases dx <;> exact ho
    split at ho
    · rename_i hc
      cases ho
      obtain ⟨c1, c2⟩ := Bool.and_eq_true_iff.mp hc
      have ok8 : (PL.D.lst ds).ok 8 = true := c2
      refine ⟨toP dx, toPs ds, dv_dp R.sub 7 dx x c1 hx, .lst (SqL.of (R.sub _ _ ha)) (dv_dps R.sub 7 ds xs c2 da), toP_shaped c1 (by decide), toP_shaped ok8 (by decide), ?_⟩
      rw [any_toP c1 c2]
      exact q _ H G R (Same.refl _) (.bl _)
    · cases ho
  | _ => cases dx <;> cases ho⟩
end
end DL
end
section
set_option Elab.async false
set_option autoImplicit false
set_option linter.all false
set_option maxRecDepth 100000
set_option maxHeartbeats 1000000
/-! DL2: and, or, tests, argument lists, displays, subscripts, built-in functions, targets, walks, statements, a def's promise. -/
namespace DL
open PySem PySem.Spec PyProof.Rows L2

section
variable {X : Cx} {T : List Addr} {O : List Nat} {e a b c : Expr} {rest : List Expr} {pos : Pos} {fa fb fc : PL.Ex} {ta tb : PL.Te}
/-! ### and, or, not, if as values -/
theorem de_one {op : BoolOp} (ha : DE X T O a fa) : DE X T O (.BoolOp op [a] pos) fa := pe_one ha
theorem de_and (ha : DE X T O a fa) (hb : DE X T O (.BoolOp .And (b :: rest) pos) fb) : DE X T O (.BoolOp .And (a :: b :: rest) pos) (PL.eAnd fa fb) := by
  refine peI (pe_and ha hb) fun σ H Q hq => ?_
  obtain ⟨B, G, s, rw, d, r', hT, bo, R, hf, q⟩ := hq
  unfold PL.eAnd at hf
  split at hf
  · rename_i r1 ea
    refine ⟨B, G, s, rw, _, r1, hT, bo, R, ea, fun v H1 G1 R1 S1 D1 => ?_⟩
    cases D1
    refine ⟨true, rfl, ?_⟩
    refine iteT ?_
    exact ⟨B, G1, s, r1, d, r', hT, bo, R1, hf, fun v H2 G2 R2 S2 D2 => q v H2 G2 R2 (S1.trans S2) D2⟩
  · rename_i r1 ea
    cases hf
    refine ⟨B, G, s, rw, _, _, hT, bo, R, ea, fun v H1 G1 R1 S1 D1 => ?_⟩
    cases D1
    refine ⟨false, rfl, ?_⟩
    refine iteF ?_
    exact q _ H1 G1 R1 S1 (.bl _)
  · cases hf
theorem de_or (ha : DE X T O a fa) (hb : DE X T O (.BoolOp .Or (b :: rest) pos) fb) : DE X T O (.BoolOp .Or (a :: b :: rest) pos) (PL.eOr fa fb) := by
  refine peI (pe_or ha hb) fun σ H Q hq => ?_
  obtain ⟨B, G, s, rw, d, r', hT, bo, R, hf, q⟩ := hq
  unfold PL.eOr at hf
  split at hf
  · rename_i r1 ea
    cases hf
    refine ⟨B, G, s, rw, _, _, hT, bo, R, ea, fun v H1 G1 R1 S1 D1 => ?_⟩
    cases D1
    refine ⟨true, rfl, ?_⟩
    refine iteT ?_
    exact q _ H1 G1 R1 S1 (.bl _)
  · rename_i r1 ea
    refine ⟨B, G, s, rw, _, r1, hT, bo, R, ea, fun v H1 G1 R1 S1 D1 => ?_⟩
    cases D1
    refine ⟨false, rfl, ?_⟩
    refine iteF ?_
    exact ⟨B, G1, s, r1, d, r', hT, bo, R1, hf, fun v H2 G2 R2 S2 D2 => q v H2 G2 R2 (S1.trans S2) D2⟩
  · cases hf
theorem de_not (ha : DE X T O a fa) : DE X T O (.UnaryOp .Not a pos) (PL.eNot fa) := by
  refine peI (pe_not ha) fun σ H Q hq => ?_
  obtain ⟨B, G, s, rw, d, r', hT, bo, R, hf, q⟩ := hq
  unfold PL.eNot at hf
  split at hf
  · rename_i k r1 ea
    cases hf
    refine ⟨B, G, s, rw, _, _, hT, bo, R, ea, fun v H1 G1 R1 S1 D1 => ?_⟩
    cases D1
    exact ⟨k, rfl, q _ H1 G1 R1 S1 (.bl _)⟩
  · cases hf
theorem de_if (hc : DT X T O c ta) (ha : DE X T O a fa) (hb : DE X T O b fb) : DE X T O (.IfExp c a b pos) (PL.eIf ta fa fb) := by
  refine peI (pe_ifExp hc ha hb) fun σ H Q hq => ?_
  obtain ⟨B, G, s, rw, d, r', hT, bo, R, hf, q⟩ := hq
  unfold PL.eIf at hf
  split at hf
  · rename_i r1 ea
    refine ⟨B, G, s, rw, true, r1, hT, bo, R, ea, fun H1 G1 R1 S1 => ?_⟩
    refine iteT ?_
    exact ⟨B, G1, s, r1, d, r', hT, bo, R1, hf, fun v H2 G2 R2 S2 D2 => q v H2 G2 R2 (S1.trans S2) D2⟩
  · rename_i r1 ea
    refine ⟨B, G, s, rw, false, r1, hT, bo, R, ea, fun H1 G1 R1 S1 => ?_⟩
    refine iteF ?_
    exact ⟨B, G1, s, r1, d, r', hT, bo, R1, hf, fun v H2 G2 R2 S2 D2 => q v H2 G2 R2 (S1.trans S2) D2⟩
  · cases hf

/-! ### tests -/
theorem dt_b (ha : DE X T O a fa) (he : ∀ whole, isTrue a X.env whole = (do let v ← whole; standAt a.pos; holding [v] (truthy v)) := by intro _; rfl) : DT X T O a (PL.tB fa) :=
  ptI (pt_val ha he) fun σ H Q q => tB_tE q
theorem dt_tr (ha : DE X T O a fa) (he : ∀ whole, isTrue a X.env whole = (do let v ← whole; standAt a.pos; holding [v] (truthy v)) := by intro _; rfl) : DT X T O a (PL.tTr fa) := by
  refine ptI (pt_truth ha he) fun σ H Q hq => ?_
  obtain ⟨B, G, s, rw, k, r', hT, bo, R, hf, q⟩ := hq
  unfold PL.tTr at hf
  split at hf
  · rename_i ds r1 ea
    cases hf
    refine ⟨B, G, s, rw, _, _, hT, bo, R, ea, fun v H1 G1 R1 S1 D1 => ?_⟩
    cases D1 with
    | tup ha da =>
      rename_i p xs
      refine ⟨!xs.isEmpty, .inr (.inl ⟨xs, SqT.of (R1.sub _ _ ha), rfl⟩), ?_⟩
      have e : xs.isEmpty = ds.isEmpty := by cases da <;> rfl
      rw [e]
      exact q H1 G1 R1 S1
  · cases hf
theorem dt_not (ha : DT X T O a ta) : DT X T O (.UnaryOp .Not a pos) (PL.tNot ta) := by
  refine ptI (pt_not ha) fun σ H Q hq => ?_
  obtain ⟨B, G, s, rw, k, r', hT, bo, R, hf, q⟩ := hq
  unfold PL.tNot at hf
  split at hf
  · rename_i k1 r1 ea
    cases hf
    exact ⟨B, G, s, rw, k1, _, hT, bo, R, ea, fun H1 G1 R1 S1 => q H1 G1 R1 S1⟩
  · cases hf
theorem dp_and1 (ha : DT X T O a ta) : DPw X T O (.BoolOp .And [a] pos) ta := pw_and1 ha
theorem dp_or1 (ha : DT X T O a ta) : DPw X T O (.BoolOp .Or [a] pos) ta := pw_or1 ha
theorem dp_and (ha : DT X T O a ta) (hb : DPw X T O (.BoolOp .And (b :: rest) pos) tb) : DPw X T O (.BoolOp .And (a :: b :: rest) pos) (PL.tAnd ta tb) := by
  refine pwI (pw_and ha hb) fun σ H Q hq => ?_
  obtain ⟨B, G, s, rw, k, r', hT, bo, R, hf, q⟩ := hq
  unfold PL.tAnd at hf
  split at hf
  · rename_i r1 ea
    refine ⟨B, G, s, rw, true, r1, hT, bo, R, ea, fun H1 G1 R1 S1 => ?_⟩
    refine iteT ?_
    exact ⟨B, G1, s, r1, k, r', hT, bo, R1, hf, fun H2 G2 R2 S2 => q H2 G2 R2 (S1.trans S2)⟩
  · rename_i r1 ea
    cases hf
    refine ⟨B, G, s, rw, false, _, hT, bo, R, ea, fun H1 G1 R1 S1 => ?_⟩
    refine iteF ?_
    exact q H1 G1 R1 S1
  · cases hf
theorem dp_or (ha : DT X T O a ta) (hb : DPw X T O (.BoolOp .Or (b :: rest) pos) tb) : DPw X T O (.BoolOp .Or (a :: b :: rest) pos) (PL.tOr ta tb) := by
  refine pwI (pw_or ha hb) fun σ H Q hq => ?_
  obtain ⟨B, G, s, rw, k, r', hT, bo, R, hf, q⟩ := hq
  unfold PL.tOr at hf
  split at hf
  · rename_i r1 ea
    cases hf
    refine ⟨B, G, s, rw, true, _, hT, bo, R, ea, fun H1 G1 R1 S1 => ?_⟩
    refine iteT ?_
    exact q H1 G1 R1 S1
  · rename_i r1 ea
    refine ⟨B, G, s, rw, false, r1, hT, bo, R, ea, fun H1 G1 R1 S1 => ?_⟩
    refine iteF ?_
    exact ⟨B, G1, s, r1, k, r', hT, bo, R1, hf, fun H2 G2 R2 S2 => q H2 G2 R2 (S1.trans S2)⟩
  · cases hf
theorem dt_pw (h : DPw X T O e ta) : DT X T O e ta := PW.pt h

/-! ### lists of expressions, displays -/
variable {es : List Expr} {ra : PL.Ar}
theorem da_nil : DA X T O [] PL.aNil := by
  refine paI pa_nil fun σ H Q hq => ?_
  obtain ⟨B, G, s, rw, ds, r', hT, bo, R, hf, q⟩ := hq
  cases hf
  exact q [] H G R (Same.refl _) .nil
theorem da_cons (ha : DE X T O a fa) (hr : DA X T O es ra) (hs : starEach (a :: es) X.env = (false, eval a X.env) :: starEach es X.env := by rfl) : DA X T O (a :: es) (PL.aCons fa ra) := by
  refine paI (pa_cons ha hr hs) fun σ H Q hq => ?_
  obtain ⟨B, G, s, rw, ds, r', hT, bo, R, hf, q⟩ := hq
  unfold PL.aCons at hf
  split at hf
  · cases hf
  · rename_i x r1 ea
    split at hf
    · cases hf
    · rename_i xs r2 eb
      cases hf
      refine ⟨B, G, s, rw, x, r1, hT, bo, R, ea, fun v H1 G1 R1 S1 D1 => ?_⟩
      exact ⟨B, G1, s, r1, xs, _, hT, bo, R1, eb, fun vs H2 G2 R2 S2 D2 => q _ H2 G2 R2 (S1.trans S2) (.cons (D1.mono S2) D2)⟩
theorem da_star {p : Pos} (ha : DE X T O a fa) (hr : DA X T O es ra) (hs : starEach (.Starred a p :: es) X.env = (true, eval a X.env) :: starEach es X.env := by rfl) : DA X T O (.Starred a p :: es) (PL.aStar fa ra) := by
  refine paI (StX.pa_star ha hr hs) fun σ H Q hq => ?_
  obtain ⟨B, G, s, rw, ds, r', hT, bo, R, hf, q⟩ := hq
  unfold PL.aStar at hf
  split at hf
  · rename_i ys r1 ea
    split at hf
    · cases hf
    · rename_i xs r2 eb
      cases hf
      refine ⟨B, G, s, rw, _, r1, hT, bo, R, ea, fun v H1 G1 R1 S1 D1 => ?_⟩
      cases D1 with
      | tup h1 h2 =>
        rename_i p vs
        refine ⟨p, vs, rfl, .inl (SqT.of (R1.sub _ _ h1)), ?_⟩
        exact ⟨B, G1, s, r1, xs, _, hT, bo, R1, eb, fun ws H2 G2 R2 S2 D2 => q _ H2 G2 R2 (S1.trans S2) ((h2.mono S2).append D2)⟩
  · cases hf
theorem de_tup {x1 : Nat} (h : DA X T O es ra) : DE X T O (.Tuple es x1 pos) (PL.eTup ra) := by
  refine peI (pe_tup h) fun σ H Q hq => ?_
  obtain ⟨B, G, s, rw, d, r', hT, bo, R, hf, q⟩ := hq
  unfold PL.eTup at hf
  split at hf
  · rename_i xs r1 ea
    split at hf
    · rename_i hl
      cases hf
      refine ⟨B, G, s, rw, xs, _, hT, bo, R, ea, fun vs H1 G1 R1 S1 D1 => ⟨by have := D1.length; have := len1000; omega, fun p hp => ?_⟩⟩
      obtain ⟨R2, S2⟩ := R1.alloc (o := .tup vs) bo hp
      exact q _ _ _ R2 (S1.trans S2) (.tup upd_same (D1.mono S2))
    · cases hf
  · cases hf

/-! ### fresh lists and dicts: they may be owned -/
def Fresh (B : Bs) (O : List Nat) (σ : St) (s : PL.Sl) (G : Hp) (a : Addr) : Prop := G a = none ∧ B.H0 a = none ∧ B.tmp a = none ∧ ∀ j, j ∈ O → ∀ e, s[j]? = some (some e) → σ[j]? ≠ some (some (.ref a))
def tF (P : Program) (w : World) (K : PySem.W.Frag) (T : List Addr) (O : List Nat) (f : PL.Ex) : TE := fun σ H Q =>
  ∃ (B : Bs) (G : Hp) (s : PL.Sl) (r : PL.Row) (d : PL.D) (r' : PL.Row), B.tabs = T ∧ BOk K B ∧ Rel P w B O σ H G s r ∧ f s r = some (d, r') ∧
    ∀ a H' G', Rel P w B O σ H' G' s r' → Same G G' → Fresh B O σ s G' a → OwnAt P w B.r0 H' G' a d → Q (.ref a) H'
abbrev DF (X : Cx) (T : List Addr) (O : List Nat) (e : Expr) (f : PL.Ex) : Prop := PE X e (tF X.prog X.w X.K T O f)
theorem fresh_of {B : Bs} {σ : St} {H G : Hp} {s : PL.Sl} {r : PL.Row} {P : Program} {w : World} {p : Addr} {o : HO} (R : Rel P w B O σ H G s r) (bo : BOk X.K B) (hp : H p = none) : Fresh B O σ s G p := by
  refine ⟨R.gnone hp, R.h0none hp, R.tnone hp, fun j hj e he z => ?_⟩
  obtain ⟨a, h1, _, _, _, h5⟩ := R.own j hj e he
  rw [z] at h1
  cases h1
  obtain ⟨o, ho⟩ := h5.some
  rw [hp] at ho
  cases ho
/-- an object of ours is frozen -/
theorem Rel.freeze {K : PySem.W.Frag} {B : Bs} {σ : St} {H G : Hp} {s : PL.Sl} {r : PL.Row} {P : Program} {w : World} {p : Addr} {o : HO} (R : Rel P w B O σ H G s r) (bo : BOk K B) (hf : Fresh B O σ s G p) (hp : H p = some o) :
    Rel P w B O σ H (upd G p o) s r ∧ Same G (upd G p o) := by
  obtain ⟨f1, f2, f3, f4⟩ := hf
  have gg : Same G (upd G p o) := fun b u h => by rw [upd_ne (ne_of_none h f1)]; exact h
  refine ⟨⟨R.len, fun b u h => ?_, R.g0.trans gg, R.k0, fun b h1 h2 => ?_, R.row, R.tab, fun b u h => ⟨(R.tmp b u h).1, ?_⟩, fun i d hi hd => ?_, fun i hi d hd => ?_, R.inj⟩, gg⟩
  · by_cases e : b = p
    · subst e; rw [upd_same] at h; rw [hp]; exact h
    · rw [upd_ne e] at h; exact R.sub b u h
  · by_cases e : b = p
    · subst e; exact absurd f2 h2
    · rw [upd_ne e]; exact R.n0 b h1 h2
  · by_cases e : b = p
    · subst e; rw [f3] at h; cases h
    · rw [upd_ne e]; exact (R.tmp b u h).2
  · obtain ⟨v, h1, h2⟩ := R.pub i d hi hd
    exact ⟨v, h1, h2.mono gg⟩
  · obtain ⟨a, h1, h2, h3, h4, h5⟩ := R.own i hi d hd
    have e : a ≠ p := fun e => by subst e; exact f4 i hi d hd h1
    exact ⟨a, h1, by rw [upd_ne e]; exact h2, h3, h4, h5.mono rfl gg⟩
theorem own_dv {P : Program} {w : World} {r0 : Addr} {H G : Hp} {a : Addr} : ∀ {d : PL.D}, OwnAt P w r0 H G a d → ∃ o, H a = some o ∧ ∀ G', Same G G' → G' a = some o → Dv P w r0 G' (.ref a) d
  | .lst ds, ⟨xs, h1, h2⟩ => ⟨_, h1, fun G' S e => .lst e (h2.mono S)⟩
  | .dki es, ⟨kvs, h1, h2⟩ => ⟨_, h1, fun G' S e => .dki e (h2.mono S)⟩
  | .dkt es, ⟨o, xs, h1, h2, h3, h4⟩ => ⟨_, h1, fun G' S e => .dkt e h2 h3 (h4.mono S)⟩
theorem de_of (h : DF X T O e fa) : DE X T O e fa := by
  refine peI h fun σ H Q hq => ?_
  obtain ⟨B, G, s, rw, d, r', hT, bo, R, hf, q⟩ := hq
  refine ⟨B, G, s, rw, d, r', hT, bo, R, hf, fun p H' G' R' S' F' W' => ?_⟩
  obtain ⟨o, ho, k⟩ := own_dv W'
  obtain ⟨R2, S2⟩ := R'.freeze bo F' ho
  exact q _ _ _ R2 (S'.trans S2) (k _ S2 upd_same)
theorem df_lst (h : DA X T O es ra) : DF X T O (.List es pos) (PL.eLst ra) := by
  refine peI (pe_lst h) fun σ H Q hq => ?_
  obtain ⟨B, G, s, rw, d, r', hT, bo, R, hf, q⟩ := hq
  unfold PL.eLst at hf
  split at hf
  · rename_i xs r1 ea
    split at hf
    · rename_i hl
      cases hf
      refine ⟨B, G, s, rw, xs, _, hT, bo, R, ea, fun vs H1 G1 R1 S1 D1 => ⟨by have := D1.length; have := len1000; omega, fun p hp => ?_⟩⟩
      exact q p _ G1 (R1.track (o := .lst vs) bo hp) S1 (fresh_of (o := .lst vs) R1 bo hp) ⟨vs, upd_same, D1⟩
    · cases hf
  · cases hf
theorem df_dictI : DF X T O (.Dict [] [] pos) PL.eDictI := by
  refine peI pe_dnewK fun σ H Q hq => ?_
  obtain ⟨B, G, s, rw, d, r', hT, bo, R, hf, q⟩ := hq
  cases hf
  intro p hp
  exact q p _ G (R.track (o := .dK []) bo hp) (Same.refl _) (fresh_of (o := .dK []) R bo hp) ⟨[], upd_same, .nil⟩
theorem df_repL (ha : DE X T O a fa) (hb : DE X T O b fb) : DF X T O (.BinOp a .Mult b pos) (PL.eBin PL.oRepL fa fb) := by
  refine peI (pe_op op_rep ha hb) fun σ H Q hq => ?_
  obtain ⟨B, G, s, rw, d, r', hT, bo, R, hf, q⟩ := hq
  obtain ⟨x, r1, y, ea, eb, ef⟩ := bin_some hf
  refine ⟨B, G, s, rw, x, r1, hT, bo, R, ea, fun v H1 G1 R1 S1 D1 => ?_⟩
  refine ⟨B, G1, s, r1, y, r', hT, bo, R1, eb, fun u H2 G2 R2 S2 D2 => ?_⟩
  cases D1 <;> cases D2 <;> first
    | (rename_i p xs ds h1 h2 k
       have ef : (if 0 ≤ k ∧ k ≤ 1000 ∧ ds.length = 1 then some (PL.D.lst (List.replicate k.toNat ds).flatten) else none) = some d := ef
       split at ef
       · rename_i hc
         cases ef
         have hl := h2.length
         refine ⟨p, k, xs, rfl, rfl, R2.sub _ _ (S2 _ _ h1), by have := hc.1; omega, by have := hc.2.1; omega, ?_, fun l hl2 => ?_⟩
         · have e1 : xs.length = 1 := by omega
           rw [e1, Nat.one_mul]
           have := hc.2.1
           have := len1000
           omega
         · refine q l _ G2 (R2.track bo hl2) (S1.trans S2) (fresh_of (o := .lst xs) R2 bo hl2) ⟨_, upd_same, ?_⟩
           have h3 := h2.mono S2
           generalize k.toNat = n
           induction n with
           | zero => exact .nil
           | succ n ih =>
             rw [List.replicate_succ, List.replicate_succ, List.flatten_cons, List.flatten_cons]
             exact h3.append ih
       · cases ef)
    | cases ef

/-! ### built-in functions of one argument -/
theorem b1_pe {x : Str} {p : Pos} {id : String} {r : List V → Hp → VK → Prop} {o : PL.D → Option PL.D} (hc : CallR X (.builtin id) r) (h1 : Op1 X T (fun v => r [v]) o) (hg : Gl X x) (hm : X.mg x = none) (hv : bootBuiltins x = some (.builtin id)) (ha : DE X T O a fa)
    (hn : x ≠ "__name__" := by decide) (hdb : (x == ("__debug__" : Str)) = false := by decide) (hs : starEach [a] X.env = (false, eval a X.env) :: starEach [] X.env := by rfl) : DE X T O (.Call (.Name x p) [a] [] pos) (PL.eUn o fa) := by
  refine peI (pe_callB hc hg hm hv (pa_cons ha pa_nil hs) hn hdb hs rfl) fun σ H Q hq => ?_
  obtain ⟨B, G, s, rw, d, r', hT, bo, R, hf, q⟩ := hq
  obtain ⟨y, ea, ef⟩ := un_some hf
  exact ⟨B, G, s, rw, y, r', hT, bo, R, ea, fun v H1 G1 R1 S1 D1 => h1 B O σ H1 G1 s r' v y d Q hT bo R1 D1 ef fun v2 H2 G2 R2 S2 D2 => q v2 H2 G2 R2 (S1.trans S2) D2⟩
theorem t1_pe {x : Str} {p : Pos} {id : String} {r : List V → Hp → VK → Prop} {o : PL.D → Option PL.D} (hc : CallR X (.type id) r) (h1 : Op1 X T (fun v => r [v]) o) (hg : Gl X x) (hm : X.mg x = none) (hv : bootBuiltins x = some (.type id)) (ha : DE X T O a fa)
    (hn : x ≠ "__name__" := by decide) (hdb : (x == ("__debug__" : Str)) = false := by decide) (hs : starEach [a] X.env = (false, eval a X.env) :: starEach [] X.env := by rfl) : DE X T O (.Call (.Name x p) [a] [] pos) (PL.eUn o fa) := by
  refine peI (pe_callTy hc hg hm hv (pa_cons ha pa_nil hs) hn hdb hs rfl) fun σ H Q hq => ?_
  obtain ⟨B, G, s, rw, d, r', hT, bo, R, hf, q⟩ := hq
  obtain ⟨y, ea, ef⟩ := un_some hf
  exact ⟨B, G, s, rw, y, r', hT, bo, R, ea, fun v H1 G1 R1 S1 D1 => h1 B O σ H1 G1 s r' v y d Q hT bo R1 D1 ef fun v2 H2 G2 R2 S2 D2 => q v2 H2 G2 R2 (S1.trans S2) D2⟩
theorem tf_pe {x : Str} {p : Pos} {id : String} {r : List V → Hp → VK → Prop} {o : PL.D → Option PL.D} (hc : CallR X (.type id) r)
    (h1 : ∀ (B : Bs) (σ : St) (H G : Hp) (s : PL.Sl) (rw : PL.Row) (x : V) (dx d : PL.D) (Q : VK), B.tabs = T → BOk X.K B → Rel X.prog X.w B O σ H G s rw → Dv X.prog X.w B.r0 G x dx → o dx = some d →
      (∀ l xs ds, H l = none → d = .lst ds → DvA X.prog X.w B.r0 G xs ds → Q (.ref l) (upd H l (.lst xs))) → r [x] H Q)
    (hd : ∀ dx d, o dx = some d → ∃ ds, d = .lst ds) (hg : Gl X x) (hm : X.mg x = none) (hv : bootBuiltins x = some (.type id)) (ha : DE X T O a fa)
    (hn : x ≠ "__name__" := by decide) (hdb : (x == ("__debug__" : Str)) = false := by decide) (hs : starEach [a] X.env = (false, eval a X.env) :: starEach [] X.env := by rfl) : DF X T O (.Call (.Name x p) [a] [] pos) (PL.eUn o fa) := by
  refine peI (pe_callTy hc hg hm hv (pa_cons ha pa_nil hs) hn hdb hs rfl) fun σ H Q hq => ?_
  obtain ⟨B, G, s, rw, d, r', hT, bo, R, hf, q⟩ := hq
  obtain ⟨y, ea, ef⟩ := un_some hf
  refine ⟨B, G, s, rw, y, r', hT, bo, R, ea, fun v H1 G1 R1 S1 D1 => h1 B σ H1 G1 s r' v y d Q hT bo R1 D1 ef fun l xs ds hl ed D2 => ?_⟩
  subst ed
  exact q l _ G1 (R1.track (o := .lst xs) bo hl) S1 (fresh_of (o := .lst xs) R1 bo hl) ⟨xs, upd_same, D2⟩
theorem DvI.length {P : Program} {w : World} {r0 : Addr} {G : Hp} : ∀ {kvs : List (Key × V)} {es : List (Int × PL.D)}, DvI P w r0 G kvs es → kvs.length = es.length
  | _, _, .nil => rfl
  | _, _, .cons _ t => by rw [List.length_cons, List.length_cons, DvI.length t]
theorem de_len {p : Pos} (hg : Gl X "len") (hm : X.mg "len" = none) (ha : DE X T O a fa) (hs : starEach [a] X.env = (false, eval a X.env) :: starEach [] X.env := by rfl) : DE X T O (.Call (.Name "len" p) [a] [] pos) (PL.eUn PL.oLen fa) := by
  have hc : CallR X (.builtin "len") (fun xs H Q => (∃ x n, xs = [x] ∧ LenV X.K x H n ∧ Q (.int n) H) ∨ ∃ a kvs, xs = [V.ref a] ∧ H a = some (.dK kvs) ∧ Q (.int kvs.length) H) := by
    intro pins s σ H xs us Q I r h
    rcases h with h | h
    · exact call_len pins s σ H xs us Q I r h
    · exact call_lenD pins s σ H xs us Q I r h
  refine b1_pe hc ?_ hg hm PySem.boot_len ha (hs := hs)
  intro B O σ H G s rw x dx d Q hT bo R hx ho q
  cases hx <;> first
    | (rename_i p xs ds h1 h2
       cases ho
       first
         | exact .inl ⟨_, xs.length, rfl, .inl ⟨_, SqL.of (R.sub _ _ h1), rfl⟩, by rw [h2.length]; exact q _ H G R (Same.refl _) (.int _)⟩
         | exact .inl ⟨_, xs.length, rfl, .inr ⟨_, SqT.of (R.sub _ _ h1), rfl⟩, by rw [h2.length]; exact q _ H G R (Same.refl _) (.int _)⟩)
    | (rename_i p kvs es h1 h2
       cases ho
       refine .inr ⟨_, kvs, rfl, R.sub _ _ h1, ?_⟩
       have e : kvs.length = es.length := DvI.length h2
       rw [e]
       exact q _ H G R (Same.refl _) (.int _))
    | cases ho
theorem de_tuple {p : Pos} (hg : Gl X "tuple") (hm : X.mg "tuple" = none) (ha : DE X T O a fa) (hs : starEach [a] X.env = (false, eval a X.env) :: starEach [] X.env := by rfl) : DE X T O (.Call (.Name "tuple" p) [a] [] pos) (PL.eUn PL.oTuple fa) := by
  refine t1_pe call_tuple_of ?_ hg hm boot_tuple ha (hs := hs)
  intro B O σ H G s rw x dx d Q hT bo R hx ho q
  cases hx with
  | lst h1 h2 =>
    rename_i p xs ds
    cases ho
    refine ⟨p, xs, rfl, .inl ⟨SqL.of (R.sub _ _ h1), fun l hl => ?_⟩⟩
    obtain ⟨R2, S2⟩ := R.alloc (o := .tup xs) bo hl
    exact q _ _ _ R2 S2 (.tup upd_same (h2.mono S2))
  | tup h1 h2 =>
    rename_i p xs ds
    cases ho
    exact ⟨p, xs, rfl, .inr ⟨SqT.of (R.sub _ _ h1), q _ H G R (Same.refl _) (.tup h1 h2)⟩⟩
  | _ => cases ho
theorem df_list {p : Pos} (hg : Gl X "list") (hm : X.mg "list" = none) (ha : DE X T O a fa) (hs : starEach [a] X.env = (false, eval a X.env) :: starEach [] X.env := by rfl) : DF X T O (.Call (.Name "list" p) [a] [] pos) (PL.eUn PL.oList fa) := by
  refine tf_pe call_list_of ?_ ?_ hg hm boot_list ha (hs := hs)
  · intro B σ H G s rw x dx d Q hT bo R hx ho q
    cases hx with
    | lst h1 h2 =>
      rename_i p xs ds
      cases ho
      exact ⟨p, xs, rfl, .inl (SqL.of (R.sub _ _ h1)), fun l hl => q l xs ds hl rfl h2⟩
    | tup h1 h2 =>
      rename_i p xs ds
      cases ho
      exact ⟨p, xs, rfl, .inr (SqT.of (R.sub _ _ h1)), fun l hl => q l xs ds hl rfl h2⟩
    | _ => cases ho
  · intro dx d h
    cases dx <;> first | exact ⟨_, (Option.some.inj h).symm⟩ | cases h
theorem de_abs {p : Pos} (hg : Gl X "abs") (hm : X.mg "abs" = none) (ha : DE X T O a fa) (hs : starEach [a] X.env = (false, eval a X.env) :: starEach [] X.env := by rfl) : DE X T O (.Call (.Name "abs" p) [a] [] pos) (PL.eUn PL.oAbs fa) := by
  refine b1_pe call_abs ?_ hg hm boot_abs ha (hs := hs)
  intro B O σ H G s rw x dx d Q hT bo R hx ho q
  cases hx <;> first | (cases ho; exact ⟨_, rfl, q _ H G R (Same.refl _) (.int _)⟩) | cases ho
theorem de_toInt {p : Pos} (hg : Gl X "int") (hm : X.mg "int" = none) (ha : DE X T O a fa) (hs : starEach [a] X.env = (false, eval a X.env) :: starEach [] X.env := by rfl) : DE X T O (.Call (.Name "int" p) [a] [] pos) (PL.eUn PL.oInt fa) := by
  refine t1_pe call_int1 ?_ hg hm boot_int ha (hs := hs)
  intro B O σ H G s rw x dx d Q hT bo R hx ho q
  cases hx <;> first | (cases ho; exact .inl ⟨_, rfl, q _ H G R (Same.refl _) (.int _)⟩) | (cases ho; exact .inr ⟨_, rfl, q _ H G R (Same.refl _) (.int _)⟩) | cases ho
theorem insI_perm (x : Int) : ∀ l : List Int, (PL.insI x l).Perm (x :: l)
  | [] => List.Perm.refl _
  | y :: ys => by
    unfold PL.insI
    split
    · exact List.Perm.refl _
    · exact ((insI_perm x ys).cons y).trans (List.Perm.swap x y ys)
theorem isort_perm : ∀ l : List Int, (PL.isort l).Perm l
  | [] => List.Perm.refl _
  | x :: xs => (insI_perm x _).trans ((isort_perm xs).cons x)
theorem insI_sorted (x : Int) : ∀ l : List Int, l.Pairwise (· ≤ ·) → (PL.insI x l).Pairwise (· ≤ ·)
  | [], _ => by simp [PL.insI]
  | y :: ys, h => by
    unfold PL.insI
    obtain ⟨h1, h2⟩ := List.pairwise_cons.mp h
    split
    · rename_i hxy
      refine List.pairwise_cons.mpr ⟨fun z hz => ?_, h⟩
      rcases List.mem_cons.mp hz with e | hz
      · rw [e]; exact hxy
      · exact Int.le_trans hxy (h1 z hz)
    · rename_i hxy
      refine List.pairwise_cons.mpr ⟨fun z hz => ?_, insI_sorted x ys h2⟩
      rcases List.mem_cons.mp ((insI_perm x ys).mem_iff.mp hz) with e | hz
      · rw [e]; omega
      · exact h1 z hz
theorem isort_sorted : ∀ l : List Int, (PL.isort l).Pairwise (· ≤ ·)
  | [] => List.Pairwise.nil
  | x :: xs => insI_sorted x _ (isort_sorted xs)
theorem sorted_one {l m : List Int} (p : l.Perm m) (h1 : l.Pairwise (· ≤ ·)) (h2 : m.Pairwise (· ≤ ·)) : l = m :=
  p.eq_of_pairwise (fun a b _ _ h h' => Int.le_antisymm h h') h1 h2
theorem de_sorted {p : Pos} (hg : Gl X "sorted") (hm : X.mg "sorted" = none) (ha : DE X T O a fa) (hs : starEach [a] X.env = (false, eval a X.env) :: starEach [] X.env := by rfl) : DE X T O (.Call (.Name "sorted" p) [a] [] pos) (PL.eUn PL.oSorted fa) := by
  refine b1_pe cr_sorted ?_ hg hm boot_sorted ha (hs := hs)
  intro B O σ H G s rw x dx d Q hT bo R hx ho q
  cases hx with
  | lst h1 h2 =>
    rename_i p xs ds
    have ho : (match PL.asInts ds with | some is => if is.length < 64 then some (PL.D.lst ((PL.isort is).map .int)) else none | none => none) = some d := ho
    split at ho
    · rename_i is e1
      split at ho
      · rename_i hl
        cases ho
        have exs := dv_ints h2 e1
        subst exs
        refine ⟨p, is, rfl, SqL.of (R.sub _ _ h1), hl, fun ns' l pm srt hl2 => ?_⟩
        obtain ⟨R2, S2⟩ := R.alloc (o := .lst (ns'.map V.int)) bo hl2
        have e : ns' = PL.isort is := sorted_one (pm.trans (isort_perm is).symm) srt (isort_sorted is)
        subst e
        exact q _ _ _ R2 S2 (.lst upd_same (dva_ints _))
      · cases ho
    · cases ho
  | _ => cases ho
theorem de_sum {p : Pos} (hc : X.calm = true) (hg : Gl X "sum") (hm : X.mg "sum" = none) (ha : DE X T O a fa) (hs : starEach [a] X.env = (false, eval a X.env) :: starEach [] X.env := by rfl)
    (hT : CallR X (.builtin "sum") (fun xs H Q => ∃ (a : Addr) (ns : List Int), xs = [V.ref a] ∧ (SqL X.K H a (ns.map V.int) ∨ SqT X.K H a (ns.map V.int)) ∧ Q (.int ns.sum) H)) : DE X T O (.Call (.Name "sum" p) [a] [] pos) (PL.eUn PL.oSum fa) := by
  refine b1_pe hT ?_ hg hm boot_sum ha (hs := hs)
  intro B O σ H G s rw x dx d Q hT bo R hx ho q
  cases hx with
  | lst h1 h2 =>
    rename_i p xs ds
    have ho : (match PL.asInts ds with | some is => some (PL.D.int is.sum) | none => none) = some d := ho
    split at ho
    · rename_i is e1
      cases ho
      have exs := dv_ints h2 e1
      subst exs
      exact ⟨p, is, rfl, .inl (SqL.of (R.sub _ _ h1)), q _ H G R (Same.refl _) (.int _)⟩
    · cases ho
  | tup h1 h2 =>
    rename_i p xs ds
    have ho : (match PL.asInts ds with | some is => some (PL.D.int is.sum) | none => none) = some d := ho
    split at ho
    · rename_i is e1
      cases ho
      have exs := dv_ints h2 e1
      subst exs
      exact ⟨p, is, rfl, .inr (SqT.of (R.sub _ _ h1)), q _ H G R (Same.refl _) (.int _)⟩
    · cases ho
  | _ => cases ho
theorem maxI_mem : ∀ (m : Int) (l : List Int), PL.maxI m l ∈ m :: l
  | m, [] => by simp [PL.maxI]
  | m, x :: xs => by
    unfold PL.maxI
    have h := maxI_mem (if m < x then x else m) xs
    rcases List.mem_cons.mp h with e | h
    · rw [e]
      split <;> simp
    · exact List.mem_cons_of_mem _ (List.mem_cons_of_mem _ h)
theorem maxI_ge : ∀ (m : Int) (l : List Int), m ≤ PL.maxI m l ∧ ∀ y ∈ l, y ≤ PL.maxI m l
  | m, [] => by simp [PL.maxI]
  | m, x :: xs => by
    unfold PL.maxI
    obtain ⟨h1, h2⟩ := maxI_ge (if m < x then x else m) xs
    split at h1 <;> rename_i hc
    · rw [if_pos hc] at h2 ⊢
      refine ⟨by omega, fun y hy => ?_⟩
      rcases List.mem_cons.mp hy with e | hy
      · rw [e]; exact h1
      · exact h2 y hy
    · rw [if_neg hc] at h2 ⊢
      refine ⟨h1, fun y hy => ?_⟩
      rcases List.mem_cons.mp hy with e | hy
      · rw [e]; omega
      · exact h2 y hy
theorem de_max {p : Pos} (hc : X.calm = true) (hg : Gl X "max") (hm : X.mg "max" = none) (ha : DE X T O a fa) (hs : starEach [a] X.env = (false, eval a X.env) :: starEach [] X.env := by rfl) : DE X T O (.Call (.Name "max" p) [a] [] pos) (PL.eUn PL.oMax fa) := by
  refine b1_pe (cr_max hc) ?_ hg hm boot_max ha (hs := hs)
  intro B O σ H G s rw x dx d Q hT bo R hx ho q
  cases hx with
  | lst h1 h2 =>
    rename_i p xs ds
    have ho : (match PL.asInts ds with | some (x :: xs) => some (PL.D.int (PL.maxI x xs)) | _ => none) = some d := ho
    split at ho
    · rename_i y ys e1
      cases ho
      have exs := dv_ints h2 e1
      subst exs
      refine ⟨p, y :: ys, rfl, SqL.of (R.sub _ _ h1), by simp, fun m hm hge => ?_⟩
      obtain ⟨g1, g2⟩ := maxI_ge y ys
      have e : m = PL.maxI y ys := by
        refine Int.le_antisymm ?_ (hge _ (maxI_mem y ys))
        rcases List.mem_cons.mp hm with e | hm
        · rw [e]; exact g1
        · exact g2 m hm
      rw [e]
      exact q _ H G R (Same.refl _) (.int _)
    · cases ho
  | _ => cases ho

/-! ### isinstance -/
theorem ty_of {P : Program} {w : World} {K : PySem.W.Frag} {r0 : Addr} {G H : Hp} (S : Same G H) {x : V} {d : PL.D} (h : Dv P w r0 G x d) (hd : ∀ es, d ≠ .dkt es) (hr : d ≠ .row) :
    (d = .non ∧ TyX K H x (.type "NoneType")) ∨ ((∃ b, d = .bl b) ∧ TyX K H x (.type "bool")) ∨ ((∃ i, d = .int i) ∧ TyX K H x (.type "int")) ∨ ((∃ ds, d = .tup ds) ∧ TyX K H x (.type "tuple")) ∨ ((∃ ds, d = .lst ds) ∧ TyX K H x (.type "list")) ∨
      ((∃ es, d = .dki es) ∧ TyX K H x (.type "dict")) := by
  cases h with
  | non => exact .inl ⟨rfl, .base .non⟩
  | bl b => exact .inr (.inl ⟨⟨b, rfl⟩, .base (.bl b)⟩)
  | int i => exact .inr (.inr (.inl ⟨⟨i, rfl⟩, .base (.int i)⟩))
  | tup h1 h2 => exact .inr (.inr (.inr (.inl ⟨⟨_, rfl⟩, .base (.tup (S _ _ h1))⟩)))
  | lst h1 h2 => exact .inr (.inr (.inr (.inr (.inl ⟨⟨_, rfl⟩, .base (.lst (S _ _ h1))⟩))))
  | dki h1 h2 => exact .inr (.inr (.inr (.inr (.inr ⟨⟨_, rfl⟩, .base (.dK (S _ _ h1))⟩))))
  | dkt _ _ _ _ => exact absurd rfl (hd _)
  | row => exact absurd rfl hr
def tyName : PL.Ty → String
  | .tInt => "int"
  | .tBool => "bool"
  | .tTup => "tuple"
  | .tLst => "list"
  | .tStr => "str"
theorem ty_kit {P : Program} {w : World} {K : PySem.W.Frag} {r0 : Addr} {G H : Hp} (S : Same G H) {x : V} {d : PL.D} (h : Dv P w r0 G x d) (t : PL.Ty) {b : Bool} (hb : PL.isTy t d = some b) : ∃ n, TyX K H x (.type n) ∧ kitB n (tyName t) = some b := by
  have hd : ∀ es, d ≠ .dkt es := fun es e => by subst e; cases t <;> cases hb
  have hr : d ≠ .row := fun e => by subst e; cases t <;> cases hb
  rcases ty_of (K := K) S h hd hr with ⟨e, z⟩ | ⟨⟨_, e⟩, z⟩ | ⟨⟨_, e⟩, z⟩ | ⟨⟨_, e⟩, z⟩ | ⟨⟨_, e⟩, z⟩ | ⟨⟨_, e⟩, z⟩ <;> subst e <;> cases t <;> cases hb <;> exact ⟨_, z, by decide +kernel⟩
theorem de_is (t : PL.Ty) {p p2 : Pos} {x : Str} (hx : x = Str.ofString (tyName t) := by rfl) (hg : Gl X "isinstance") (hm : X.mg "isinstance" = none) (hg2 : Gl X x) (hm2 : X.mg x = none) (ha : DE X T O a fa) (hv : bootBuiltins x = some (.type (tyName t)) := by decide +kernel)
    (hn : x ≠ "__name__" := by decide) (hdb : (x == ("__debug__" : Str)) = false := by decide)
    (hs : starEach [a, .Name x p2] X.env = (false, eval a X.env) :: starEach [.Name x p2] X.env := by rfl) : DE X T O (.Call (.Name "isinstance" p) [a, .Name x p2] [] pos) (PL.eCall (PL.fIs t) (PL.aCons fa PL.aNil)) := by
  refine peI (pe_callB call_isi hg hm boot_isinstance (pa_cons ha (pa_cons (pe_bltn (v := .ty (tyName t)) hg2 hm2 hv rfl hn hdb) pa_nil) hs) (he := hs)) fun σ H Q hq => ?_
  obtain ⟨B, G, s, rw, d, r', hT, bo, R, hf, q⟩ := hq
  unfold PL.eCall PL.aCons PL.aNil at hf
  split at hf
  · rename_i xs r1 e1
    split at e1
    · cases e1
    · rename_i y r2 ea
      cases e1
      unfold PL.fIs at hf
      dsimp only at hf
      split at hf
      · rename_i k ek
        cases hf
        refine ⟨B, G, s, rw, y, _, hT, bo, R, ea, fun v H1 G1 R1 S1 D1 => ?_⟩
        obtain ⟨n, z1, z2⟩ := ty_kit (K := X.K) R1.sub D1 t ek
        exact ⟨v, .ty (tyName t), .type n, .type (tyName t), k, rfl, .ty _, z1, kit_ty z2, q _ H1 G1 R1 S1 (.bl _)⟩
      · cases hf
  · cases hf
theorem de_isTL {p p2 p3 p4 : Pos} {kx : Nat} (hc : X.calm = true) (hg : Gl X "isinstance") (hm : X.mg "isinstance" = none) (hg2 : Gl X "tuple") (hm2 : X.mg "tuple" = none) (hg3 : Gl X "list") (hm3 : X.mg "list" = none) (ha : DE X T O a fa)
    (hs : starEach [a, .Tuple [.Name "tuple" p2, .Name "list" p3] kx p4] X.env = (false, eval a X.env) :: starEach [.Tuple [.Name "tuple" p2, .Name "list" p3] kx p4] X.env := by rfl) :
    DE X T O (.Call (.Name "isinstance" p) [a, .Tuple [.Name "tuple" p2, .Name "list" p3] kx p4] [] pos) (PL.eCall PL.fIsTL (PL.aCons fa PL.aNil)) := by
  refine peI (pe_callB call_isiT hg hm boot_isinstance (pa_cons ha (pa_cons (pe_tup (pa_cons (pe_bltn (v := .ty "tuple") hg2 hm2 boot_tuple rfl) (pa_cons (pe_bltn (v := .ty "list") hg3 hm3 boot_list rfl) pa_nil))) pa_nil) hs) (he := hs)) fun σ H Q hq => ?_
  obtain ⟨B, G, s, rw, d, r', hT, bo, R, hf, q⟩ := hq
  unfold PL.eCall PL.aCons PL.aNil at hf
  split at hf
  · rename_i xs r1 e1
    split at e1
    · cases e1
    · rename_i y r2 ea
      cases e1
      unfold PL.fIsTL at hf
      dsimp only at hf
      split at hf
      · rename_i k1 k2 ek1 ek2
        cases hf
        refine ⟨B, G, s, rw, y, _, hT, bo, R, ea, fun v H1 G1 R1 S1 D1 => ⟨by show 2 ≤ sizeLine; decide, fun tp htp => ?_⟩⟩
        obtain ⟨R2, S2⟩ := R1.alloc (o := .tup [.ty "tuple", .ty "list"]) bo htp
        obtain ⟨n, z1, z2⟩ := ty_kit (K := X.K) R2.sub (D1.mono S2) .tTup ek1
        have hd : ∀ es, y ≠ .dkt es := fun es e => by subst e; cases ek1
        have hr : y ≠ .row := fun e => by subst e; cases ek1
        have key : ∃ n, TyX X.K (upd H1 tp (.tup [.ty "tuple", .ty "list"])) v (.type n) ∧ kitB n "tuple" = some k1 ∧ kitB n "list" = some k2 := by
          rcases ty_of (K := X.K) R2.sub (D1.mono S2) hd hr with ⟨e, z⟩ | ⟨⟨_, e⟩, z⟩ | ⟨⟨_, e⟩, z⟩ | ⟨⟨_, e⟩, z⟩ | ⟨⟨_, e⟩, z⟩ | ⟨⟨_, e⟩, z⟩ <;> subst e <;> cases ek1 <;> cases ek2 <;> exact ⟨_, z, by decide +kernel, by decide +kernel⟩
        obtain ⟨n, z1, z2, z3⟩ := key
        refine ⟨v, tp, [.ty "tuple", .ty "list"], .type n, [.type "tuple", .type "list"], k1 || k2, rfl, upd_same, .cons (.ty _) (.cons (.ty _) .nil), z1, ?_, q _ _ _ R2 (S1.trans S2) (.bl _)⟩
        refine kitAny_cons (kit_ty z2) (fun h => ?_) fun h => by rw [h]; rfl
        refine kitAny_cons (kit_ty z3) (fun h2 => ?_) fun h2 => by rw [h2]; cases k1 <;> rfl
        rw [h, h2]
        exact kitAny_nil
      · cases hf
  · cases hf

/-! ### subscripts by an int, slices -/
theorem ix_at {α : Type} {xs : List α} {i : Int} {j : Nat} {v : α} (h : PL.ixOf xs.length i = some j) (hv : xs[j]? = some v) : atI xs i = some v := by
  unfold atI
  rw [show ixN xs.length i = some j from h]
  exact hv
theorem de_ix (ha : DE X T O a fa) (hb : DE X T O b fb) (hp : PlainIx b := by exact fun _ _ => rfl) : DE X T O (.Subscript a b pos) (PL.eBin PL.oIx fa fb) := by
  have hr : IxR X (fun x y H Q => rIxL X.K x y H Q ∨ rIxT X.K x y H Q) := by
    intro value slice pins s σ H x y v u Q I rx ry h hs
    rcases h with h | h
    · exact ix_list value slice pins s σ H x y v u Q I rx ry h hs
    · exact ix_tup value slice pins s σ H x y v u Q I rx ry h hs
  refine peI (pe_ix hr ha hb hp) fun σ H Q hq => rd_bin (o := PL.oIx) ?_ hq
  intro B O σ H G s rw x y dx dy d Q hT bo R hx hy ho q
  cases hx with
  | lst h1 h2 =>
    rename_i p xs ds
    cases hy <;> first
      | (rename_i i
         unfold PL.oIx at ho
         dsimp only at ho
         split at ho
         · rename_i j ej
           obtain ⟨v, hv, dv⟩ := h2.get ho
           exact .inl ⟨p, xs, i, v, rfl, rfl, SqL.of (R.sub _ _ h1), ix_at (by rw [h2.length]; exact ej) hv, q _ H G R (Same.refl _) dv⟩
         · cases ho)
      | cases ho
  | tup h1 h2 =>
    rename_i p xs ds
    cases hy <;> first
      | (rename_i i
         unfold PL.oIx at ho
         dsimp only at ho
         split at ho
         · rename_i j ej
           obtain ⟨v, hv, dv⟩ := h2.get ho
           exact .inr ⟨p, xs, i, v, rfl, rfl, SqT.of (R.sub _ _ h1), ix_at (by rw [h2.length]; exact ej) hv, q _ H G R (Same.refl _) dv⟩
         · cases ho)
      | cases ho
  | _ => cases dy <;> cases ho
end
end DL
end
section
set_option Elab.async false
set_option autoImplicit false
set_option linter.all false
set_option maxRecDepth 100000
set_option maxHeartbeats 2000000
/-! G1: generator expressions in all, any, sum, the element of any kind (calls too). -/
namespace GG
open L2 GxR PySem PySem.Spec PyProof.Rows

structure GScp (scope : Scope) : Prop where
  co : scope.isCoroutine = false
  cell : ∀ y ∈ scope.names, y.2 ≠ .cell
  dot : scope.names.lookup (".0" : Str) = some NameKind.local
abbrev gEnv (X : Cx) (scope : Scope) (C : Addr) (code : Value) : Env := genEnv scope (cloFrom X.env.cells scope.names []) C code builtinsNs X.env
/-- the context of a generator expression's frame -/
abbrev genX (X : Cx) (A' : Around) (s : Shared) (H : Hp) (scope : Scope) (C : Addr) (code : Value) (fp : List Addr) (pn : List (Addr × Obj)) : Cx :=
  { X with A := A', s_0 := s, H_0 := H, env := gEnv X scope C code, outer := X.stack, stack := gEnv X scope C code :: X.stack, ex := fp, fn := fun _ => false, pn := pn, xe := fun _ _ => False }

section
variable {X : Cx} {pins : List (Addr × Obj)} {σ : L2.St} {H : Hp} {s : Shared}
theorem inv_gens {gs : Array GenState} (I : Inv X pins σ H s) (h : AllBare gs) : Inv X pins σ H { s with gens := gs } :=
  ⟨I.ok, I.os, h, I.base, I.loc, I.cell, I.free, I.freeC, I.pin, I.hok, I.len⟩
theorem bare_set {g : Nat} {x : GenState} {gens : Array GenState} (h : AllBare gens) (hx : x.bare = true) : AllBare (gens.setIfInBounds g x) := fun y hy => by
  rcases Array.mem_or_eq_of_mem_setIfInBounds hy with z | z
  · exact h y z
  · rw [z]; exact hx
theorem inv_setGen {g : Nat} {x : GenState} (I : Inv X pins σ H s) (hx : x.bare = true) : Inv X pins σ H (s.setGen g x) := inv_gens I (bare_set I.bare hx)

theorem gen_start {A' : Around} {scope : Scope} {own : List (Str × Nat)} {fp : List Addr} {code : Value} {pn : List (Addr × Obj)} {h5 : Heap} {gs : Array GenState} {tk : Nat} {m0 : Str → Option Value}
    (I : Inv X pins σ H s) (ok : BlkOk X.N X.env.scope scope own) (S : GScp scope) (hN : X.N.Nodup) (hfp : ∀ b ∈ fp, FpOk X pins H b ∧ b < s.heap.objs.size)
    (hA : A'.handled = none) (hF : A'.frames = some (gEnv X scope s.heap.objs.size code :: X.stack)) (hn : h5.Ns s.heap.objs.size m0) (kp : ∀ b o, s.heap.get? b = some o → h5.get? b = some o)
    (hpn : ∀ p ∈ pn, h5.get? p.1 = some p.2 ∧ s.heap.objs.size < p.1 ∧ ∀ v, p.2.data ≠ .cell v) (hg : AllBare gs) :
    Inv (genX X A' s H scope s.heap.objs.size code fp pn) [] (wipe σ (own.map (·.2))) H { s with heap := h5, gens := gs, toks := tk } := by
  have hfree : ∀ y ∈ scope.names, y.2 = .free → ∃ c, X.env.cells.lookup y.1 = some c := fun y hy e => by
    rcases ok.free y hy e with k | k
    · exact I.ok.has _ (.inl k)
    · exact I.ok.has _ (.inr k)
  have cm : ∀ {y c}, (cloFrom X.env.cells scope.names []).lookup y = some c → X.env.cells.lookup y = some c ∧ c < s.heap.objs.size := fun {y c} hm => by
    rcases cloFrom_mem (PySem.mem_of_lookup hm) with hm | ⟨h1, rfl⟩
    · cases hm
    · obtain ⟨c, hc⟩ := hfree _ h1 rfl
      rw [hc]
      obtain ⟨w, z⟩ := I.cell _ _ hc
      exact ⟨rfl, z.lt⟩
  have look : ∀ {y}, scope.names.lookup y = some .free → ∃ c, (cloFrom X.env.cells scope.names []).lookup y = some c ∧ X.env.cells.lookup y = some c := fun {y} hl => by
    have hy : (y, NameKind.free) ∈ scope.names := PySem.mem_of_lookup hl
    obtain ⟨c', e'⟩ := mem_lookup (cloFrom_has (cells := X.env.cells) (acc := []) hy)
    exact ⟨c', e', (cm e').1⟩
  have nocell : ∀ y, scope.names.lookup y ≠ some .cell := fun y e => S.cell _ (PySem.mem_of_lookup e) rfl
  have okB : (genX X A' s H scope s.heap.objs.size code fp pn).Ok := by
    refine ⟨I.ok.mod, ok.kind, I.ok.glob, rfl, Nat.le_refl _, fun y z c e1 e2 => I.ok.inj y z c (cm e1).1 (cm e2).1, fun y hy => ?_, fun y c z e => absurd (show (false : Bool) = true from z) (by decide), fun _ => hA, hF, .inr ⟨rfl, rfl⟩, fun b hb => ⟨Nat.ne_of_lt (hfp b hb).2, fun y c e z => ?_⟩,
      I.bs, Nat.le_trans I.ok.bsz I.sz, fun b o e hb => ?_, fun b hb z => ?_, I.stack, I.stkFree⟩
    · rcases hy with hy | hy
      · exact absurd hy (nocell y)
      · obtain ⟨c, h1, _⟩ := look hy
        exact ⟨c, h1⟩
    · exact (hfp b hb).1.2.2.2.2.1 y c (cm e).1 z
    · rcases (hfp b hb).1.2.2.2.1 with z | z
      · exact I.ok.noex b o e z
      · exact absurd (Nat.lt_of_lt_of_le (Heap.lt_size e) (Nat.le_trans I.ok.bsz z)) (Nat.lt_irrefl _)
    · rcases List.mem_cons.mp (I.stkSub b z) with z | z
      · exact (hfp b hb).1.2.1 z
      · exact (hfp b hb).1.2.2.1 z
  refine ⟨okB, rfl, hg, Un.kept kp, ⟨m0, hn, fun i y av e1 e2 e3 => ?_⟩, fun y c e => ?_, I.hok.fresh (Nat.le_refl _), fun y c e => I.freeC y c (cm e).1, fun p hp => ?_, I.hok.kept kp, by rw [wipe_length]; exact I.len⟩
  · obtain ⟨e2, hne⟩ := wipe_some e2
    have hfr : scope.names.lookup y = some .free := by
      have e3 : Vis scope y := e3
      rcases e3 with e3 | e3 | e3
      · rcases ok.own _ (PySem.mem_of_lookup e3) (.inl rfl) with e' | e'
        · obtain ⟨p, hp, hpy⟩ := List.mem_map.mp e'
          have e4 := ok.ix p hp
          have : p.1 = y := hpy
          rw [this] at e4
          exact absurd (List.mem_map.mpr ⟨p, hp, nodup_ix hN e4 e1⟩) hne
        · exact absurd (List.mem_of_getElem? e1) e'
      · exact absurd e3 (nocell y)
      · exact e3
    obtain ⟨m, hn, hl⟩ := I.loc
    have hvis : Vis X.env.scope y := (ok.free _ (PySem.mem_of_lookup hfr) rfl).elim (fun k => .inr (.inl k)) (fun k => .inr (.inr k))
    obtain ⟨w, r, q⟩ := hl i y av e1 e2 hvis
    refine ⟨w, r, .inr ⟨.inr hfr, ?_⟩⟩
    obtain ⟨c, h1, h2⟩ := look hfr
    rcases q with ⟨k, _⟩ | ⟨_, c', e', z⟩
    · have k : X.env.scope.names.lookup y = some .local := k
      rcases ok.free _ (PySem.mem_of_lookup hfr) rfl with k' | k' <;> rw [show X.env.scope.names.lookup y = _ from k'] at k <;> cases k
    · rw [h2] at e'; cases e'
      exact ⟨c, h1, z.keeps kp⟩
  · obtain ⟨w, z⟩ := I.cell y c (cm e).1
    exact ⟨w, z.keeps kp⟩
  · have hp : p ∈ pn := by simpa using hp
    obtain ⟨h1, h2, h3⟩ := hpn p hp
    refine ⟨h1, I.hok.fresh (Nat.le_of_lt h2), Nat.ne_of_gt h2, fun z => ?_, h3⟩
    rcases List.mem_cons.mp (I.stkSub p.1 z) with z | z
    · exact absurd (z ▸ I.lt) (Nat.not_lt.mpr (Nat.le_of_lt h2))
    · exact I.nofs (Nat.le_of_lt h2) z
end

/-! ### the run of the generator's body -/
section
variable {X : Cx} {A : Around} {s4 : Shared} {H4 : Hp} {scope : Scope} {C a g : Addr} {code : Value} {fp : List Addr} {pn : List (Addr × Obj)}
/-- a generator that stands ahead of a turn with the measure m -/
def GSt (Y : Cx) (σw : L2.St) (fp : List Addr) (tn : Nat → Heap → Prop) (W : Nat → Nat → Hp → Prop) (Sv : Shared → Hp → Prop) (g m : Nat) (s₀ s : Shared) : Prop :=
  ∃ i H, Inv Y [] σw H s ∧ tn i s.heap ∧ (∀ b ∈ fp, H b = none) ∧ W m i H ∧ g < s.gens.size ∧ Sv s₀ H
def GEndP (Y : Cx) (σw : L2.St) (Qd : Hp → Prop) (Sv : Shared → Hp → Prop) (g : Nat) (_ : Nat) (s₀ s : Shared) : Prop := ∃ H, Inv Y [] σw H s ∧ Qd H ∧ g < s.gens.size ∧ Sv s₀ H
def GPro (Y : Cx) (Yd : (Hp → Prop) → V → Hp → Prop) (Sv : Shared → Hp → Prop) (g : Nat) : Protocol := fun _ s₀ v s₁ kap =>
  g < s₁.gens.size ∧ ∃ (y : V) (σ2 : L2.St) (H4 : Hp) (pl : List (Addr × Obj)) (Nx : Hp → Prop), Inv Y pl σ2 H4 s₁ ∧ RelV y v ∧ Yd Nx y H4 ∧ Sv s₀ H4 ∧
    ∀ H'' s'', Inv Y pl σ2 H'' s'' → Nx H'' → g < s''.gens.size → kap (.send .none) s''
/-- what a turn must reach -/
def GTurn (J : It) (σw : L2.St) (vs : List Nat) (gt : TG) (tt : TT) (te : TE) (Qd : Hp → Prop) (Yd : (Hp → Prop) → V → Hp → Prop) (W : Nat → Nat → Hp → Prop) (Sv : Shared → Hp → Prop) : Prop :=
  ∀ i m H, W m i H → (J.stop i H ∧ Qd H) ∨ (J.go i H ∧ ∃ Nx : Hp → Prop, (∀ H', Nx H' → ∃ m', m' < m ∧ W m' (i + 1) H') ∧
    ∀ x H', J.yld i H x H' → gt x σw H' fun σ2 H2 => wipe σ2 vs = wipe σw vs ∧ tt σ2 H2 fun b H3 => if b = true then te σ2 H3 fun y H4 => Yd Nx y H4 ∧ (∀ s₀, Sv s₀ H → Sv s₀ H4) else Nx H3 ∧ ∀ s₀, Sv s₀ H → Sv s₀ H3)


theorem thnX {Y : Cx} (hx : ∀ u s, ¬ Y.xe u s) {α : Type} {t : Sem α} {Q Q' : α → Shared → Prop} {M : Model} {A : Around} {E : Value → Shared → Prop} {s : Shared} (h : wpAny M A t Q Y.xe s) (hQ : ∀ a s, Q a s → Q' a s) : wpAny M A t Q' E s := wpAny_mono h hQ fun u s z => absurd z (hx u s)
theorem thnG {Y : Cx} (hx : ∀ u s, ¬ Y.xe u s) {n : Nat} {α : Type} {t : Sem α} {Q Q' : α → Shared → Prop} {M : Model} {A : Around} {E : Value → Shared → Prop} {s : Shared} (hn : n < s.gens.size) (h : wpAny M A t Q Y.xe s) (hQ : ∀ a s, Q a s → n < s.gens.size → Q' a s) : wpAny M A t Q' E s :=
  GenW.wpAny_gsz (n := n + 1) hn (wpAny_mono h (fun a s q z => hQ a s q z) fun u s z => absurd z (hx u s))
theorem seg_run {Y : Cx} {elt tg iter : Expr} {ifs : List Expr} {pos : Pos} {it : Addr} {J : It} {tn : Nat → Heap → Prop} {σw : L2.St} {vs : List Nat} {gt : TG} {tt : TT} {te : TE} {Qd : Hp → Prop} {Yd : (Hp → Prop) → V → Hp → Prop} {W : Nat → Nat → Hp → Prop} {Sv : Shared → Hp → Prop} (hSv : ∀ σ pl i m H s, Inv Y pl σ H s → W m i H → Sv s H)
    (hA : A.over (.compLoop (.GeneratorExp elt [⟨tg, iter, ifs, 0⟩] scope pos) 0 (.ref it) .none Y.env) [] = Y.A) (hx : ∀ u s, ¬ Y.xe u s) (hc : Y.calm = true) (hex : ∀ b ∈ fp, b ∈ Y.ex) (hpf : ∀ p ∈ Y.pn, ∀ b ∈ fp, p.1 ≠ b)
    (hco : Y.env.scope.isCoroutine = false) (hw : (wipe σw vs) = σw)
    (T : Turn Y.prog Y.w Y.K tg J fp it tn) (hg : PG Y tg gt) (ht : PTs Y ifs tt) (hel : PE Y elt te) (turn : GTurn J σw vs gt tt te Qd Yd W Sv) :
    ∀ (m n : Nat) (s₀ s : Shared), m < n → GSt Y σw fp tn W Sv g m s₀ s →
      Seg (model Y.prog Y.w) A (fun n s₀ r s₁ => r = .ok .next ∧ GEndP Y σw Qd Sv g n s₀ s₁) (GPro Y Yd Sv g) n s₀
        (.compLoop (.GeneratorExp elt [⟨tg, iter, ifs, 0⟩] scope pos) 0 (.ref it) .none Y.env) ((model Y.prog Y.w).den (.compLoop (.GeneratorExp elt [⟨tg, iter, ifs, 0⟩] scope pos) 0 (.ref it) .none Y.env)) [] s := by
  intro m
  induction m using Nat.strongRecOn with
  | ind m ih =>
    intro n s₀ s hmn hst
    obtain ⟨i, H, I, st, fr, w, gsz, sv⟩ := hst
    have stat : ∀ {σ' : L2.St} {H' : Hp} {s' : Shared}, Inv Y [] σ' H' s' → (∀ b ∈ fp, H' b = none) → ∀ b ∈ fp, FpOk Y [] H' b := fun {σ' H' s'} I' hn b hb =>
      ⟨hn b hb, (I'.ok.exf b (hex b hb)).1, I'.ok.exfs b (hex b hb), .inl (hex b hb), fun x c e => (I'.ok.exf b (hex b hb)).2 x c e, fun p hp => hpf p (by simpa using hp) b hb⟩
    show Seg _ A _ _ _ s₀ _ ((compTurn (.GeneratorExp elt [⟨tg, iter, ifs, 0⟩] scope pos) 0 (.ref it) .none Y.env).onRaise (leaving Y.env)) [] s
    rw [compTurn_gen, Sem.onRaise_eq_wrap]
    refine seg_bind_wrap (wpAny_standAt ?_)
    rcases turn i m H w with ⟨stop, qd⟩ | ⟨go, Nx, hNx, step⟩
    · refine seg_bind_wrap ?_
      rw [hA]
      refine thnG hx gsz (T.done Y rfl rfl rfl hc i [] s _ H _ I (stat I fr) st stop) fun r s6 ⟨hr, I6⟩ g6 => ?_
      subst hr
      exact seg_end (.ok .next) ⟨rfl, H, I6, qd, g6, sv⟩
    · refine seg_bind_wrap ?_
      rw [hA]
      refine thnG hx gsz (T.item Y rfl rfl rfl hc i [] s _ H _ I (stat I fr) st go) fun r s6 ⟨u, hr, h6⟩ g6 => ?_
      subst hr
      refine seg_bind_wrap ?_
      rw [hA]
      refine thnG hx g6 h6 fun _ s7 ⟨x, H7, I7, r7, y7, st7, n7⟩ g7 => ?_
      have I7' := I7.pinned (stat I7 n7) (T.obj _ _ st7)
      refine seg_bind_wrap ?_
      rw [hA]
      refine thnG hx g7 (hg.run _ s7 _ H7 x u _ I7' r7 (step x H7 y7)) fun _ s8 ⟨σ8, H8, I8, hw8, q8⟩ g8 => ?_
      refine seg_bind_wrap ?_
      rw [hA]
      refine thnG hx g8 (ht.run _ s8 σ8 H8 _ I8 q8) fun b s9 ⟨H9, I9, q9⟩ g9 => ?_
      have fin : ∀ {s0 s' : Shared} {H' : Hp}, Inv Y ([] ++ pinsAt fp s7.heap) σ8 H' s' → Nx H' → g < s'.gens.size → (Sv s0 H' ∨ s0 = s') → ∃ m', m' < m ∧ GSt Y σw fp tn W Sv g m' s0 s' := fun {s0 s' H'} I' nx g' sv' => by
        obtain ⟨m', hm, w'⟩ := hNx H' nx
        have pin' : ∀ b ∈ fp, ∀ o, s7.heap.get? b = some o → s'.heap.get? b = some o ∧ H' b = none := fun b hb o e =>
          let z := I'.pin (b, o) (List.mem_append_right _ (List.mem_append_right _ (mem_pinsAt hb e)))
          ⟨z.1, z.2.1⟩
        have hl : σw.length = σ8.length := by rw [← hw, ← hw8, wipe_length]
        refine ⟨m', hm, i + 1, H', (I'.unpinned (pins := [])).weak hl (fun j v e => ?_), T.keep _ _ _ st7 fun b hb o e => (pin' b hb o e).1, fun b hb => ?_, w', g', sv'.elim id fun e => by rw [e]; exact hSv _ _ _ _ _ _ I' w'⟩
        · rw [← hw, ← hw8] at e
          exact (wipe_some e).1
        · obtain ⟨o, e, _⟩ := T.obj _ _ st7 b hb
          exact (pin' b hb o e).2
      cases b with
      | false =>
        simp only [Bool.false_eq_true, if_false] at q9 ⊢
        obtain ⟨m', hm, w'⟩ := fin I9 q9.1 g9 (.inl (q9.2 _ sv))
        exact seg_again rfl (ih m' hm n s₀ s9 (by omega) w')
      | true =>
        simp only [if_true] at q9 ⊢
        have hy : ∀ v, yieldOut Y.env v = yieldValue v := fun v => by simp only [yieldOut, hco, Bool.false_eq_true, if_false]
        simp only [hy]
        rw [Sem.bind_eq_wrap', Sem.bind_eq_wrap', Sem.wrap_wrap, Sem.wrap_wrap]
        refine seg_wrap ?_
        rw [hA]
        refine thnG hx g9 (hel.run _ s9 σ8 H9 _ I9 q9) fun z s10 ⟨yv, H10, I10, r10, yd⟩ g10 => ?_
        obtain ⟨n', rfl⟩ : ∃ n', n = n' + 1 := ⟨n - 1, by omega⟩
        refine seg_at (seg_yield rfl rfl rfl ⟨g10, yv, σ8, H10, _, Nx, I10, r10, yd.1, yd.2 _ sv, fun H'' s'' I'' nx g'' => ?_⟩)
        obtain ⟨m', hm, w'⟩ := fin I'' nx g'' (.inr rfl)
        exact seg_again rfl (ih m' hm n' s'' s'' (by omega) w')
/-- .. from its start -/
theorem seg_first {Y : Cx} {elt tg iter : Expr} {ifs : List Expr} {pos : Pos} {it : Addr} {J : It} {tn : Nat → Heap → Prop} {σw : L2.St} {vs : List Nat} {gt : TG} {tt : TT} {te : TE} {Qd : Hp → Prop} {Yd : (Hp → Prop) → V → Hp → Prop} {W : Nat → Nat → Hp → Prop} {Sv : Shared → Hp → Prop} (hSv : ∀ σ pl i m H s, Inv Y pl σ H s → W m i H → Sv s H)
    (hA : A.over (.compLoop (.GeneratorExp elt [⟨tg, iter, ifs, 0⟩] scope pos) 0 (.ref it) .none Y.env) [] = Y.A) (hx : ∀ u s, ¬ Y.xe u s) (hc : Y.calm = true) (hex : ∀ b ∈ fp, b ∈ Y.ex) (hpf : ∀ p ∈ Y.pn, ∀ b ∈ fp, p.1 ≠ b)
    (hco : Y.env.scope.isCoroutine = false) (hw : (wipe σw vs) = σw)
    (T : Turn Y.prog Y.w Y.K tg J fp it tn) (hg : PG Y tg gt) (ht : PTs Y ifs tt) (hel : PE Y elt te) (turn : GTurn J σw vs gt tt te Qd Yd W Sv) {m : Nat} {s₀ s : Shared} (hst : GSt Y σw fp tn W Sv g m s₀ s) :
      Seg (model Y.prog Y.w) A (fun n s₀ r s₁ => r = .ok .next ∧ GEndP Y σw Qd Sv g n s₀ s₁) (GPro Y Yd Sv g) (m + 1) s₀
        (.compStart (.GeneratorExp elt [⟨tg, iter, ifs, 0⟩] scope pos) 0 (.ref it) .none Y.env) ((model Y.prog Y.w).den (.compStart (.GeneratorExp elt [⟨tg, iter, ifs, 0⟩] scope pos) 0 (.ref it) .none Y.env)) [] s := by
  have loop := seg_run (g := g) hSv hA hx hc hex hpf hco hw T hg ht hel turn m (m + 1) s₀ s (Nat.lt_succ_self _) hst
  obtain ⟨i, H, I, st, fr, w, gsz, sv⟩ := hst
  show Seg _ A _ _ _ s₀ _ ((compStart (.GeneratorExp elt [⟨tg, iter, ifs, 0⟩] scope pos) 0 (.ref it) .none Y.env).onRaise (leaving Y.env)) [] s
  unfold compStart
  rw [Sem.onRaise_eq_wrap]
  show Seg _ A _ _ _ s₀ _ ((ask >>= _).wrap _ _ _ _) [] s
  refine seg_bind_wrap (wpAny_askSetting ?_)
  split
  · exact seg_again rfl loop
  · first
      | exact seg_bind_wrap (wpAny_rule (seg_bind_wrap (wpAny_standAt (seg_bind_wrap (T.self _ i _ _ _ st (seg_again rfl loop))))))
      | (refine seg_bind_wrap (wpAny_rule ?_); show Seg _ A _ _ _ s₀ _ ((standAt iter.pos >>= _).wrap _ _ _ _) [] s; exact seg_bind_wrap (wpAny_standAt (seg_bind_wrap (T.self _ i _ _ _ st (seg_again rfl loop)))))
end

/-! ### who walks it -/
section
variable {Y : Cx} {A : Around} {a : Addr} {g : Nat} {σw : L2.St} {Qd : Hp → Prop} {Yd : (Hp → Prop) → V → Hp → Prop} {Sv : Shared → Hp → Prop} {o : Obj}
/-- the generator stands ready, at most n items to come -/
def Rdy (Y : Cx) (A : Around) (σw : L2.St) (Qd : Hp → Prop) (Yd : (Hp → Prop) → V → Hp → Prop) (Sv : Shared → Hp → Prop) (a g n : Nat) (s : Shared) : Prop :=
  ∃ gs, s.gens[g]? = some gs ∧ s.heap.IsGen a g ∧ s.heap.NoLimit ∧ gs.Goes (model Y.prog Y.w) A (fun n s₀ r s₁ => r = .ok .next ∧ GEndP Y σw Qd Sv g n s₀ s₁) (GPro Y Yd Sv g) n (.send .none) (s.setGen g .running)
theorem set_size {s : Shared} {g : Nat} {x : GenState} : (s.setGen g x).gens.size = s.gens.size := by simp [Shared.setGen]
theorem set_at {s : Shared} {g : Nat} {x : GenState} (h : g < s.gens.size) : (s.setGen g x).gens[g]? = some x := by simp [Shared.setGen, h]
theorem lt_of_at {s : Shared} {g : Nat} {x : GenState} (h : s.gens[g]? = some x) : g < s.gens.size := by
  obtain ⟨h1, _⟩ := Array.getElem?_eq_some_iff.mp h
  exact h1
/-- one item: the loops' common part -/
theorem next_gen {Ac : Around} (hh : Ac.handled = none) (hroom : Ac.depth < recursionLimit) (ho : (a, o) ∈ Y.pn) (hgen : ∀ h : Heap, h.get? a = some o → h.IsGen a g) {n : Nat} {s : Shared} {Q : Option Value → Shared → Prop} {E : Value → Shared → Prop}
    (hs : Rdy Y Ac.in1 σw Qd Yd Sv a g n s)
    (hd : ∀ H s', Inv Y [] σw H s' → Qd H → Sv (s.setGen g .running) H → Q none s')
    (hi : ∀ y v σ2 H pl Nx s', RelV y v → Inv Y pl σ2 H s' → Yd Nx y H → Sv (s.setGen g .running) H → (∀ H2 s2, Inv Y pl σ2 H2 s2 → Nx H2 → s2.gens = s'.gens → ∃ n', n = n' + 1 ∧ Rdy Y Ac.in1 σw Qd Yd Sv a g n' s2) → Q (some v) s') :
    wpAny (model Y.prog Y.w) Ac (pyNext (.ref a)) Q E s := by
  obtain ⟨gs, h1, h2, h3, h4⟩ := hs
  have hlt := lt_of_at h1
  refine wpAny_pyNext_genexpQ (P := GEndP Y σw Qd Sv g) hh h3 hroom h2 h1 h4 (fun v s₁ gs' hb' hv => ?_) (fun s₁ hp h' hk => ?_)
  · obtain ⟨g1, y, σ2, H4, pl, Nx, I, r, yd, sv, kap⟩ := hv
    refine hi y v σ2 H4 pl Nx _ r (inv_setGen I hb') yd sv fun H2 s2 I2 nx e => ?_
    have hlt2 : g < s2.gens.size := by rw [e, set_size]; exact g1
    have z := kap H2 (s2.setGen g .running) (inv_setGen I2 rfl) nx (by rw [set_size]; exact hlt2)
    cases n with
    | zero => exact False.elim z
    | succ n' => exact ⟨n', rfl, gs', by rw [e]; exact set_at g1, hgen _ (I2.pin (a, o) (List.mem_append_left _ ho)).1, I2.nolimit, z⟩
  · obtain ⟨H, I, qd, g1, sv⟩ := hp
    exact hd H _ ((inv_setGen I (g := g) (x := .finished) rfl).kept (t' := s₁.toks) hk) qd sv
def ydB (stop : Bool) (Qs : Hp → Prop) : (Hp → Prop) → V → Hp → Prop := fun Nx y H => ∃ k, y = .bl k ∧ if k = stop then Qs H else Nx H
theorem loop_all {Ac : Around} {Qs : Hp → Prop} {R : Result → Shared → Prop} (hh : Ac.handled = none) (hroom : Ac.depth < recursionLimit) (ho : (a, o) ∈ Y.pn) (hgen : ∀ h : Heap, h.get? a = some o → h.IsGen a g)
    (hd : ∀ H s', Inv Y [] σw H s' → Qd H → R (.ok (.ret (.bool true))) s') (hs : ∀ pl σ2 H s', Inv Y pl σ2 H s' → Qs H → R (.ok (.ret (.bool false))) s') :
    ∀ (n : Nat) (s : Shared), Rdy Y Ac.in1.in1 σw Qd (ydB false Qs) Sv a g n s → codeAny (model Y.prog Y.w) Ac (.builtin "all.loop" ⟨[.ref a], []⟩) R s := by
  intro n
  induction n using Nat.strongRecOn with
  | ind n ih =>
    intro s hr
    refine codeAny_builtin F.entry_all_loop ?_
    rw [Around.under_plainId F.plain_all_loop _]
    show wpAny _ Ac.in1 (pyNext (.ref a) >>= _) _ _ s
    refine wpAny_bind (next_gen (Ac := Ac.in1) hh hroom ho hgen hr (fun H s' I qd _ => ?_) fun y v σ2 H pl Nx s' r I yd _ go => ?_)
    · exact wpAny_bind (wpAny_rule (wpAny_pure (hd H s' I qd)))
    · obtain ⟨k, rfl, yd⟩ := yd
      cases r
      refine wpAny_bind (wpAny_holding (wpAny_truthy_bool ?_))
      refine wpAny_bind (wpAny_letGo ?_)
      cases k with
      | true =>
        simp only [if_true]
        rw [if_neg (by decide)] at yd
        obtain ⟨n', e, hr'⟩ := go H s' I yd rfl
        exact wpAny_pure ⟨plainId_quiet F.plain_all_loop _, ih n' (by omega) s' hr'⟩
      | false =>
        simp only [Bool.false_eq_true, if_false]
        rw [if_pos rfl] at yd
        exact wpAny_bind (wpAny_rule (wpAny_pure (hs pl σ2 H s' I yd)))
theorem loop_any {Ac : Around} {Qs : Hp → Prop} {R : Result → Shared → Prop} (hh : Ac.handled = none) (hroom : Ac.depth < recursionLimit) (ho : (a, o) ∈ Y.pn) (hgen : ∀ h : Heap, h.get? a = some o → h.IsGen a g)
    (hd : ∀ H s', Inv Y [] σw H s' → Qd H → R (.ok (.ret (.bool false))) s') (hs : ∀ pl σ2 H s', Inv Y pl σ2 H s' → Qs H → R (.ok (.ret (.bool true))) s') :
    ∀ (n : Nat) (s : Shared), Rdy Y Ac.in1.in1 σw Qd (ydB true Qs) Sv a g n s → codeAny (model Y.prog Y.w) Ac (.builtin "any.loop" ⟨[.ref a], []⟩) R s := by
  intro n
  induction n using Nat.strongRecOn with
  | ind n ih =>
    intro s hr
    refine codeAny_builtin F.entry_any_loop ?_
    rw [Around.under_plainId F.plain_any_loop _]
    show wpAny _ Ac.in1 (pyNext (.ref a) >>= _) _ _ s
    refine wpAny_bind (next_gen (Ac := Ac.in1) hh hroom ho hgen hr (fun H s' I qd _ => ?_) fun y v σ2 H pl Nx s' r I yd _ go => ?_)
    · exact wpAny_bind (wpAny_rule (wpAny_pure (hd H s' I qd)))
    · obtain ⟨k, rfl, yd⟩ := yd
      cases r
      refine wpAny_bind (wpAny_holding (wpAny_truthy_bool ?_))
      refine wpAny_bind (wpAny_letGo ?_)
      cases k with
      | false =>
        simp only [Bool.false_eq_true, if_false]
        rw [if_neg (by decide)] at yd
        obtain ⟨n', e, hr'⟩ := go H s' I yd rfl
        exact wpAny_pure ⟨plainId_quiet F.plain_any_loop _, ih n' (by omega) s' hr'⟩
      | true =>
        simp only [if_true]
        rw [if_pos rfl] at yd
        exact wpAny_bind (wpAny_rule (wpAny_pure (hs pl σ2 H s' I yd)))
def ydS (S : Addr) : (Hp → Prop) → V → Hp → Prop := fun Nx y H => ∃ i n : Int, y = .int i ∧ H S = some (.lst [.int n]) ∧ Nx (upd H S (.lst [.int (n + i)]))
def svS (S : Addr) : Shared → Hp → Prop := fun s H => ∀ v t c, s.heap.get? S = some { cls := .type "list", dict := none, data := .seq #[.int v t] c, slots := #[] } → H S = some (.lst [.int v])
theorem lst_one {pl : List (Addr × Obj)} {σ : L2.St} {H : Hp} {s : Shared} {S : Addr} {v : Int} (I : Inv Y pl σ H s) (hS : H S = some (.lst [.int v])) : ∃ t c, s.heap.get? S = some { cls := .type "list", dict := none, data := .seq #[.int v t] c, slots := #[] } := by
  obtain ⟨_, its, c, rv, eS⟩ := I.hok S _ hS
  cases rv with
  | cons r rr =>
    cases rr
    obtain ⟨t, rfl⟩ := r
    exact ⟨t, c, eS⟩
theorem svS_of {pl : List (Addr × Obj)} {σ : L2.St} {H : Hp} {s : Shared} {S : Addr} {v : Int} (I : Inv Y pl σ H s) (hS : H S = some (.lst [.int v])) : svS S s H := fun w t c e => by
  obtain ⟨t', c', e'⟩ := lst_one I hS
  rw [e'] at e
  cases e
  exact hS
theorem sum_set {pl : List (Addr × Obj)} {σ : L2.St} {H : Hp} {s : Shared} {S : Addr} {v w : Int} {t : Tok} {c : Nat} {h' : Heap} {tk : Nat} (I : Inv Y pl σ H s) (hS : H S = some (.lst [.int v])) (k : ∀ b u, b ≠ S → s.heap.get? b = some u → h'.get? b = some u)
    (e : h'.get? S = some { cls := .type "list", dict := none, data := .seq #[.int w t] c, slots := #[] }) : Inv Y pl σ (upd H S (.lst [.int w])) { s with heap := h', toks := tk } :=
  I.write (t' := tk) (by rw [hS]; trivial) (.inl rfl) k ⟨_, e⟩ ⟨by show 1 ≤ sizeLine; decide, [.int w t], c, .cons ⟨t, rfl⟩ .nil, e⟩
theorem loop_sum {Ac : Around} {S : Addr} {R : Result → Shared → Prop} (hh : Ac.handled = none) (hroom : Ac.depth < recursionLimit) (ho : (a, o) ∈ Y.pn) (hgen : ∀ h : Heap, h.get? a = some o → h.IsGen a g)
    (hd : ∀ n t H s', Inv Y [] σw H s' → Qd H → H S = some (.lst [.int n]) → R (.ok (.ret (.int n t))) s') :
    ∀ (n : Nat) (s : Shared) (pl : List (Addr × Obj)) (σ2 : L2.St) (H : Hp) (v st : Int), (st = 0 ∨ st = 2) → Inv Y pl σ2 H s → H S = some (.lst [.int v]) → Rdy Y Ac.in1.in1 σw Qd (ydS S) (svS S) a g n s →
      codeAny (model Y.prog Y.w) Ac (.builtin "sum.loop" ⟨[.ref a, .ref S, rawInt st, rawInt 0], []⟩) R s := by
  intro n
  induction n using Nat.strongRecOn with
  | ind n ih =>
    intro s pl σ2 H v st hst2 I hS hr
    obtain ⟨tA, c, eS⟩ := lst_one I hS
    refine codeAny_builtin F.entry_sum_loop ?_
    rw [Around.under_plainId F.plain_sum_loop _]
    show wpAny _ Ac.in1 (seqItems? (.ref S) >>= _) _ _ s
    refine wpAny_bind (wpAny_seqItems eS rfl ?_)
    rcases hst2 with rfl | rfl
    · show wpAny _ Ac.in1 (tryCatch (pyNext (.ref a)) _ >>= _) _ _ s
      refine wpAny_bind (wpAny_tryCatch (next_gen (Ac := Ac.in1) hh hroom ho hgen hr (fun H' s' I' qd sv => ?_) fun y u σ3 H' pl' Nx s' r I' yd sv go => ?_))
      · exact wpAny_pure (hd v tA H' s' I' qd (sv v tA c eS))
      · obtain ⟨i, n0, rfl, hS', nx⟩ := yd
        have e1 := sv v tA c eS
        rw [hS'] at e1
        cases e1
        obtain ⟨t, rfl⟩ := r
        obtain ⟨tB, c', eS'⟩ := lst_one I' hS'
        show wpAny _ Ac.in1 (if (_ : Bool) = true then (mkInt (v + i) >>= _) else _) _ _ _
        split
        · refine wpAny_bind (wpAny_mkInt ?_)
          show wpAny _ Ac.in1 (updateSeq S (fun _ => #[.int (v + i) s'.toks]) >>= _) _ _ _
          refine wpAny_bind (wpAny_updateSeq eS' rfl ?_)
          have J := sum_set (w := v + i) (tk := s'.toks + 1) I' hS' (fun b u hb e => (Heap.get?_update_other _ _ (fun h => hb h.symm)).trans e) (Heap.get?_update_self (Obj.mapSeq fun _ => #[Value.int (v + i) s'.toks]) eS' rfl)
          obtain ⟨n', e, hr'⟩ := go _ _ J nx rfl
          exact wpAny_pure ⟨plainId_quiet F.plain_sum_loop _, ih n' (by omega) _ pl' σ3 _ (v + i) 0 (.inl rfl) J upd_same hr'⟩
        · refine wpAny_bind (wpAny_rule ?_)
          refine wpAny_bind (wpAny_attempt (wpAny_holding (wpAny_add_int ?_)))
          show wpAny _ Ac.in1 (updateSeq S (fun _ => #[.int (v + i) s'.toks]) >>= _) _ _ _
          refine wpAny_bind (wpAny_updateSeq eS' rfl ?_)
          have e2 := Heap.get?_update_self (Obj.mapSeq fun _ => #[Value.int (v + i) s'.toks]) eS' rfl
          refine wpAny_bind (wpAny_letGo ?_)
          refine wpAny_bind (wpAny_updateSeq e2 rfl ?_)
          have J := sum_set (w := v + i) (tk := s'.toks + 1) I' hS' (fun b u hb e => (Heap.get?_update_other _ _ (fun h => hb h.symm)).trans ((Heap.get?_update_other _ _ (fun h => hb h.symm)).trans e)) (Heap.get?_update_self (Obj.mapSeq fun _ => #[Value.int (v + i) s'.toks]) e2 rfl)
          obtain ⟨n', e, hr'⟩ := go _ _ J nx rfl
          exact wpAny_pure ⟨plainId_quiet F.plain_sum_loop _, ih n' (by omega) _ pl' σ3 _ (v + i) 2 (.inr rfl) J upd_same hr'⟩
    · show wpAny _ Ac.in1 (tryCatch (pyNext (.ref a)) _ >>= _) _ _ s
      refine wpAny_bind (wpAny_tryCatch (next_gen (Ac := Ac.in1) hh hroom ho hgen hr (fun H' s' I' qd sv => ?_) fun y u σ3 H' pl' Nx s' r I' yd sv go => ?_))
      · exact wpAny_pure (hd v tA H' s' I' qd (sv v tA c eS))
      · obtain ⟨i, n0, rfl, hS', nx⟩ := yd
        have e1 := sv v tA c eS
        rw [hS'] at e1
        cases e1
        obtain ⟨t, rfl⟩ := r
        obtain ⟨tB, c', eS'⟩ := lst_one I' hS'
        show wpAny _ Ac.in1 ((holding [Value.int i t] (binaryOp .Add (.int v tA) (.int i t))).attempt >>= _) _ _ _
        · refine wpAny_bind (wpAny_attempt (wpAny_holding (wpAny_add_int ?_)))
          show wpAny _ Ac.in1 (updateSeq S (fun _ => #[.int (v + i) s'.toks]) >>= _) _ _ _
          refine wpAny_bind (wpAny_updateSeq eS' rfl ?_)
          have e2 := Heap.get?_update_self (Obj.mapSeq fun _ => #[Value.int (v + i) s'.toks]) eS' rfl
          refine wpAny_bind (wpAny_letGo ?_)
          refine wpAny_bind (wpAny_updateSeq e2 rfl ?_)
          have J := sum_set (w := v + i) (tk := s'.toks + 1) I' hS' (fun b u hb e => (Heap.get?_update_other _ _ (fun h => hb h.symm)).trans ((Heap.get?_update_other _ _ (fun h => hb h.symm)).trans e)) (Heap.get?_update_self (Obj.mapSeq fun _ => #[Value.int (v + i) s'.toks]) e2 rfl)
          obtain ⟨n', e, hr'⟩ := go _ _ J nx rfl
          exact wpAny_pure ⟨plainId_quiet F.plain_sum_loop _, ih n' (by omega) _ pl' σ3 _ (v + i) 2 (.inr rfl) J upd_same hr'⟩
end

/-! ### the making -/
section
variable {X : Cx} {pins : List (Addr × Obj)} {σ : L2.St} {H : Hp} {s : Shared}
/-- made: ready to be walked -/
def Made (X : Cx) (pins : List (Addr × Obj)) (σ : L2.St) (elt tg iter : Expr) (ifs : List Expr) (scope : Scope) (gpos : Pos) (own : List (Str × Nat)) (J : It) (H2 : Hp) (u : Value) (s5 : Shared) : Prop :=
  ∃ (a g it : Addr) (fp : List Addr) (tn : Nat → Heap → Prop) (s4 : Shared) (code : Value) (o : Obj), u = .ref a ∧ (∀ h : Heap, h.get? a = some o → h.IsGen a g) ∧ s5.heap.get? a = some o ∧
    s5.gens[g]? = some (.fresh (.compStart (.GeneratorExp elt [⟨tg, iter, ifs, 0⟩] scope gpos) 0 (.ref it) .none (gEnv X scope s4.heap.objs.size code))) ∧
    Turn X.prog X.w X.K tg J fp it tn ∧ tn 0 s5.heap ∧ Inv X pins σ H2 s4 ∧ (∀ b ∈ fp, FpOk X pins H2 b) ∧ (∀ b ∈ fp, b < a) ∧ s4.os = s5.os ∧ s4.drawn = s5.drawn ∧ s5.heap.NoLimit ∧
    ∀ A' : Around, A'.handled = none → A'.frames = some (gEnv X scope s4.heap.objs.size code :: X.stack) → Inv (genX X A' s4 H2 scope s4.heap.objs.size code fp [(a, o)]) [] (wipe σ (own.map (·.2))) H2 s5
theorem gen_made {c P : Addr} {elt tg iter : Expr} {ifs : List Expr} {gpos : Pos} {scope : Scope} {own : List (Str × Nat)} {wi : TI} {k : Nat} {Q' : Value → Shared → Prop} {R : It → Hp → Prop}
    (hr : Room k X.A) (TB : TabB X.base X.mg c P) (hcode : X.env.code = .ref c) (ok : BlkOk X.N X.env.scope scope own) (S : GScp scope) (hN : X.N.Nodup) (hi : PI X tg iter wi)
    (hs : ∀ v, genFold iter X.env v = pure v) (I : Inv X pins σ H s) (h : wi σ H fun J H1 => TabG H1 P ∧ ∀ H2, Tabbed P H1 H2 → R J H2)
    (hQ : ∀ J H2 u s5, R J H2 → Made X pins σ elt tg iter ifs scope gpos own J H2 u s5 → Q' u s5) :
    wpAny (model X.prog X.w) X.A (eval (.GeneratorExp elt [⟨tg, iter, ifs, 0⟩] scope gpos) X.env) Q' X.xe s := by
  have hfree : ∀ y ∈ scope.names, y.2 = .free → ∃ c, X.env.cells.lookup y.1 = some c := fun y hy e => by
    rcases ok.free y hy e with k | k
    · exact I.ok.has _ (.inl k)
    · exact I.ok.has _ (.inr k)
  refine wpAny_GeneratorExp_make S.co (closure_ok hfree) S.cell S.dot ok.kind (by have := hr.dp; omega) ?_ hs
  refine thn (hi.run pins s σ H _ I h) fun xv s1 h1 => thn h1 fun itv s2 h2 => ?_
  obtain ⟨it, fp, tn, J, H2, e, I2, T, st2, f2, ⟨ps, hP, htr⟩, q⟩ := h2
  subst e
  have hPs : s2.heap.get? P = some { cls := .none, data := .fields ps } := I2.hok P _ hP
  have hPlt : P < s2.heap.objs.size := Heap.lt_size hPs
  have cd : PySem.W.CodeHd s2.heap c P := TB.code.keeps fun b u e => I2.bk b u e
  have nfp : ∀ b ∈ fp, b ≠ P := fun b hb e => by
    have z := (f2 b hb).1
    rw [e, hP] at z
    cases z
  have cont : ∀ (code : Value) (h3 : Heap) (tk : Nat) (more : Array Value), Heap.ExtBut P s2.heap h3 → s2.heap.objs.size ≤ h3.objs.size → h3.get? P = some { cls := .none, data := .fields (ps ++ more) } → TriplesOk (ps ++ more).toList →
      wpAny (model X.prog X.w) X.A (builtinsFor X.env.globals X.env.builtins) (fun bi s₄ =>
        ∀ h', h'.Ns s₄.heap.objs.size (fun y => if y = ".0" then some (.ref it) else none) → Heap.SameBut s₄.heap.objs.size (s₄.heap.push { cls := .type "frame", data := .dict #[] }) h' →
          Q' (.ref h'.objs.size) { s₄ with
            gens := s₄.gens.push (.fresh (.compStart (.GeneratorExp elt [⟨tg, iter, ifs, 0⟩] scope gpos) 0 (.ref it) .none (genEnv scope (cloFrom X.env.cells scope.names []) s₄.heap.objs.size code bi X.env))),
            toks := s₄.toks + 1 + 1 + 1,
            heap := h'.push { cls := .type "generator", data := .fields #[.int s₄.gens.size 0, .str "<genexpr>" (s₄.toks + 1), .str (X.env.qual ++ "<genexpr>") (s₄.toks + 1 + 1)] } }) X.xe { s2 with heap := h3, toks := tk } := by
    intro code h3 tk more hx hsz hP3 ht3
    have I3 : Inv X pins σ (upd H2 P (.tbl (ps ++ more))) { s2 with heap := h3, toks := tk } := inv_tab (g' := s2.gens) (d' := s2.drawn) I2 hP (fun b u hb e => hx b u hb e) hP3 I2.bare
    obtain ⟨bm, ob, e1, e2, e3, e4, e5, e6, e7, e8⟩ := TB.bm
    refine wpAny_builtinsFor (m := X.mg) (by rw [I3.ok.glob]; exact I3.mod.glob.keeps I3.bk) e1 e2 (I3.bk _ _ e5) e6 e7 e8 ?_
    intro h' hn' hs'
    have hsz' : h'.objs.size = h3.objs.size + 1 := by rw [hs'.1, Heap.size_push]
    have keep' : ∀ b o, h3.get? b = some o → h'.get? b = some o := fun b o e => hs'.extBut b o (Nat.ne_of_lt (Heap.lt_size e)) (Heap.get?_push_of_some _ e)
    have keep5 : ∀ b o, h3.get? b = some o → (h'.push { cls := .type "generator", data := .fields #[.int s2.gens.size 0, .str "<genexpr>" (tk + 1), .str (X.env.qual ++ "<genexpr>") (tk + 1 + 1)] }).get? b = some o := fun b o e => Heap.get?_push_of_some _ (keep' b o e)
    have f3 : ∀ b ∈ fp, FpOk X pins (upd H2 P (.tbl (ps ++ more))) b ∧ b < h3.objs.size := fun b hb => by
      refine ⟨⟨by rw [upd_ne (nfp b hb)]; exact (f2 b hb).1, (f2 b hb).2⟩, ?_⟩
      obtain ⟨o, e, _⟩ := T.obj _ _ st2 b hb
      exact Nat.lt_of_lt_of_le (Heap.lt_size e) hsz
    refine hQ J (upd H2 P (.tbl (ps ++ more))) _ _ (q _ ⟨⟨_, upd_same, ht3⟩, fun b hb => upd_ne hb⟩) ⟨h'.objs.size, s2.gens.size, it, fp, tn, { s2 with heap := h3, toks := tk }, code, _, rfl, fun h e => ⟨_, _, _, e, rfl, rfl, rfl⟩, Heap.get?_push_size _ rfl, ?_, T, ?_, I3, fun b hb => (f3 b hb).1, fun b hb => ?_, rfl, rfl, I3.nolimit.keeps keep5, fun A' hA hF => ?_⟩
    · exact Array.getElem?_push_size ..
    · refine T.keep _ _ _ st2 fun b hb o e => keep5 b o (hx b o (nfp b hb) e)
    · exact Nat.lt_of_lt_of_le (f3 b hb).2 (by rw [hsz']; exact Nat.le_succ _)
    · refine gen_start (s := { s2 with heap := h3, toks := tk }) (tk := tk + 1 + 1 + 1) I3 ok S hN f3 hA hF (hn'.push _) keep5 (fun p hp => ?_) (I3.bare.push rfl)
      have e := List.mem_singleton.mp hp
      subst e
      exact ⟨Heap.get?_push_size _ rfl, by show h3.objs.size < h'.objs.size; rw [hsz']; exact Nat.lt_succ_self _, fun v z => nomatch z⟩
  refine ⟨I2.nolimit, ?_⟩
  cases hf : codeAmong gpos ps.toList with
  | none =>
    refine wpAny_genexprCodeX hcode (cd.code hPs htr) (cd.tab hPs) hf fun c' h' tk hx hge hlt hco' _ htab' _ => ?_
    obtain ⟨o1, vs, f1, tf, fl, tg', inF, tx, tt, op, _, _, _, _, _, _, _, _, _, htr', _⟩ := hco'
    exact cont _ h' tk _ hx (Nat.le_trans hge (Nat.le_of_lt hlt)) htab'.2 htr'
  | some cv =>
    refine wpAny_genexprCode_hit hcode (cd.code hPs htr) hf ?_
    exact cont cv s2.heap s2.toks #[] (Heap.ExtBut.refl _ _) (Nat.le_refl _) (by simpa using hPs) (by simpa using htr)

/-! ### all, any, sum -/
theorem room_gen {k : Nat} {A : Around} {c : Code} (hr : Room (k + 1) A) (hw : c.weight = 1) (hu : c.cUnits = 3) : Room k (A.in1.in1.over c []) := by
  refine ⟨hr.hd, ?_, ?_⟩
  · have := hr.dp
    show A.depth + 0 + c.weight + 3 * k + 5 < recursionLimit
    rw [hw]; omega
  · have := hr.un
    show A.units + 1 + 1 + 0 + c.cUnits + 16 * k + 200 < cLine
    rw [hu]; omega
/-- what the walk of a generator is to give -/
def tGenB (stop : Bool) (P : Addr) (wi : TI) (g : TG) (tt : TT) (te : TE) (vs : List Nat) : TE := fun σ H Q => wi σ H fun J H1 => TabG H1 P ∧ ∀ H2, Tabbed P H1 H2 → ∃ W : Nat → Nat → Hp → Prop, (∃ m, W m 0 H2) ∧
  GTurn J (wipe σ vs) vs g tt te (Q (.bl (!stop))) (ydB stop (Q (.bl stop))) W (fun _ _ => True)
def tGenS (P : Addr) (wi : TI) (g : TG) (tt : TT) (te : TE) (vs : List Nat) : TE := fun σ H Q => wi σ H fun J H1 => TabG H1 P ∧ ∀ H2, Tabbed P H1 H2 → ∀ S, H2 S = none → ∃ (W : Nat → Nat → Hp → Prop), (∃ m, W m 0 (upd H2 S (.lst [.int 0]))) ∧
  (∀ m i H, W m i H → ∃ n, H S = some (.lst [.int n])) ∧ GTurn J (wipe σ vs) vs g tt te (fun H => ∀ n, H S = some (.lst [.int n]) → Q (.int n) H) (ydS S) W (svS S)
theorem wipe_wipe (σ : L2.St) (vs : List Nat) : wipe (wipe σ vs) vs = wipe σ vs := by
  refine List.ext_getElem? fun i => ?_
  have key : ∀ (τ : L2.St) (us : List Nat), (∀ j, j ∈ us → j < τ.length → τ[j]? = some none) → (wipe τ us)[i]? = τ[i]? := by
    intro τ us
    induction us with
    | nil => intro _; rfl
    | cons u us ih =>
      intro h
      have e := ih fun j hj => h j (List.mem_cons_of_mem _ hj)
      unfold wipe
      by_cases hi : u = i
      · subst hi
        by_cases hl : u < τ.length
        · rw [List.getElem?_set_self (by rw [wipe_length]; exact hl), h u List.mem_cons_self hl]
        · rw [List.getElem?_eq_none (by simpa [wipe_length] using hl), List.getElem?_eq_none (by simpa using hl)]
      · rw [List.getElem?_set_ne hi, e]
  refine key _ _ fun j hj hl => ?_
  cases q : (wipe σ vs)[j]? with
  | none => rw [List.getElem?_eq_none_iff] at q; omega
  | some o =>
    cases o with
    | none => rfl
    | some x => exact absurd hj (wipe_some q).2

/-- the derivations of the parts, in the generator's frame -/
structure GParts (X : Cx) (k : Nat) (scope : Scope) (tg : Expr) (ifs : List Expr) (elt : Expr) (gt : TG) (tt : TT) (te : TE) : Prop where
  g : ∀ (A' : Around) (s : Shared) (H : Hp) (C : Addr) (code : Value) (fp : List Addr) (pn : List (Addr × Obj)), Room k A' → PG (genX X A' s H scope C code fp pn) tg gt
  t : ∀ (A' : Around) (s : Shared) (H : Hp) (C : Addr) (code : Value) (fp : List Addr) (pn : List (Addr × Obj)), Room k A' → PTs (genX X A' s H scope C code fp pn) ifs tt
  e : ∀ (A' : Around) (s : Shared) (H : Hp) (C : Addr) (code : Value) (fp : List Addr) (pn : List (Addr × Obj)), Room k A' → PE (genX X A' s H scope C code fp pn) elt te
theorem rdy_of {elt tg iter : Expr} {ifs : List Expr} {scope : Scope} {gpos : Pos} {own : List (Str × Nat)} {gt : TG} {tt : TT} {te : TE} {k : Nat} {J : It} {H2 : Hp} {u : Value} {s5 : Shared} {Rf : Addr → Shared → Prop}
    (hc : X.calm = true) (hr : Room (k + 1) X.A) (S : GScp scope) (D : GParts X k scope tg ifs elt gt tt te) (M : Made X pins σ elt tg iter ifs scope gpos own J H2 u s5)
    (h : ∀ (Y : Cx) (a g : Addr) (o : Obj), u = .ref a → (a, o) ∈ Y.pn → (∀ h : Heap, h.get? a = some o → h.IsGen a g) → s5.heap.IsGen a g → Y.prog = X.prog → Y.w = X.w → Inv Y [] (wipe σ (own.map (·.2))) H2 s5 →
      (∀ pl σ2 H' s', Inv Y pl σ2 H' s' → Inv X pins σ H' s') →
      (∀ (Qd : Hp → Prop) (Yd : (Hp → Prop) → V → Hp → Prop) (W : Nat → Nat → Hp → Prop) (Sv : Shared → Hp → Prop) (m : Nat) (H3 : Hp) (s6 : Shared), (∀ σ pl i m H s, Inv Y pl σ H s → W m i H → Sv s H) → W m 0 H3 → GTurn J (wipe σ (own.map (·.2))) (own.map (·.2)) gt tt te Qd Yd W Sv →
        Inv Y [] (wipe σ (own.map (·.2))) H3 s6 → (∀ b o, s5.heap.get? b = some o → s6.heap.get? b = some o) → s6.gens = s5.gens → (∀ b, b < a → H3 b = H2 b) → Rdy Y X.A.in1.in1 (wipe σ (own.map (·.2))) Qd Yd Sv a g (m + 1) s6) → Rf a s5) :
    ∃ a, u = .ref a ∧ Rf a s5 := by
  obtain ⟨a, g, it, fp, tn, s4, code, o, rfl, hgen, ho, hgs, T, st, I4, f4, fa, hos, hdr, hnl, hY⟩ := M
  refine ⟨a, rfl, ?_⟩
  generalize hA' : X.A.in1.in1.over (.compLoop (.GeneratorExp elt [⟨tg, iter, ifs, 0⟩] scope gpos) 0 (.ref it) .none (gEnv X scope s4.heap.objs.size code)) [] = A'
  have rA : Room k A' := by rw [← hA']; exact room_gen hr rfl rfl
  have fA : A'.frames = some (gEnv X scope s4.heap.objs.size code :: X.stack) := by
    rw [← hA']
    show pushEnvs [gEnv X scope s4.heap.objs.size code] (pushEnvs [] X.A.frames) = _
    rw [I4.ok.frames]
    rfl
  have I5 := hY A' rA.hd fA
  refine h (genX X A' s4 H2 scope s4.heap.objs.size code fp [(a, o)]) a g o rfl (List.mem_singleton.mpr rfl) hgen (hgen _ ho) rfl rfl I5 (fun pl σ2 H' s' I' => ?_) fun Qd Yd W Sv m H3 s6 hSv w turn I6 kp hgg hH => ?_
  · exact I4.call' (ch := fp) I'.os I'.base I'.hok I'.bare fun b hb => ⟨(f4 b hb).2.2.2.1, (f4 b hb).2.1, (f4 b hb).2.2.2.2.1, (f4 b hb).2.2.2.2.2⟩
  · have hgs6 := hgs
    rw [← hgg] at hgs6
    have glt : g < s6.gens.size := by
      obtain ⟨h1, _⟩ := Array.getElem?_eq_some_iff.mp hgs
      rw [hgg]; exact h1
    refine ⟨_, hgs6, hgen _ (kp _ _ ho), I6.nolimit, ?_⟩
    refine ⟨rfl, ?_⟩
    refine seg_first (Y := genX X A' s4 H2 scope s4.heap.objs.size code fp [(a, o)]) (fp := fp) (tn := tn) (W := W) hSv hA' (fun _ _ z => z) hc (fun _ hb => hb) (fun p hp b hb => ?_) S.co (wipe_wipe _ _) T (D.g _ _ _ _ _ _ _ rA) (D.t _ _ _ _ _ _ _ rA) (D.e _ _ _ _ _ _ _ rA) turn
      ⟨0, H3, inv_setGen I6 rfl, T.keep _ _ _ st fun b _ o e => kp b o e, fun b hb => by rw [hH b (fa b hb)]; exact (f4 b hb).1, w, by rw [set_size]; exact glt, hSv _ _ _ _ _ _ (inv_setGen I6 rfl) w⟩
    have e := List.mem_singleton.mp hp
    subst e
    exact Nat.ne_of_gt (fa b hb)
theorem pe_genAll {c P : Addr} {elt tg iter : Expr} {ifs : List Expr} {p pos gpos : Pos} {scope : Scope} {own : List (Str × Nat)} {wi : TI} {gt : TG} {tt : TT} {te : TE} {k : Nat}
    (hc : X.calm = true) (hr : Room (k + 1) X.A) (hg : Gl X "all") (hm : X.mg "all" = none) (TB : TabB X.base X.mg c P) (hcode : X.env.code = .ref c) (ok : BlkOk X.N X.env.scope scope own) (S : GScp scope) (hN : X.N.Nodup) (hi : PI X tg iter wi)
    (D : GParts X k scope tg ifs elt gt tt te) (hs : ∀ v, genFold iter X.env v = pure v)
    (he : starEach [.GeneratorExp elt [⟨tg, iter, ifs, 0⟩] scope gpos] X.env = (false, eval (.GeneratorExp elt [⟨tg, iter, ifs, 0⟩] scope gpos) X.env) :: starEach [] X.env := by rfl) :
    PE X (.Call (.Name "all" p) [.GeneratorExp elt [⟨tg, iter, ifs, 0⟩] scope gpos] [] pos) (tGenB false P wi gt tt te (own.map (·.2))) := by
  refine ⟨fun pins s σ H Q I h => ?_⟩
  refine wpAny_Call_Name_kw (ld_blt I hg hm (by decide +kernel : bootBuiltins "all" = some (.builtin "all")) ?_)
  refine PyProof.Rows.callWith_builtin1 ?_ he (by rfl)
  rw [he]
  show wpAny _ _ (spliced ((false, eval (.GeneratorExp elt [⟨tg, iter, ifs, 0⟩] scope gpos) X.env) :: backTo pos (starEach [] X.env))) _ _ s
  refine Calls.spliced_cons (gen_made hr TB hcode ok S hN hi hs I h fun J H2 u s5 hR M => ?_)
  refine Calls.spliced_nil ?_
  obtain ⟨W, ⟨m, w⟩, turn⟩ := hR
  obtain ⟨a, e, z⟩ := rdy_of (Rf := fun a s5 => wpAny (model X.prog X.w) X.A (call (.builtin "all") [.ref a]) (EP X pins σ Q) X.xe s5) hc hr S D M fun Y a g o eu ho hgen hig yp yw IY back rdy => by
    refine call_function_tree F.kind_all F.plain_all F.entry_all (F.args_all1 _) ?_
    unfold Builtin.«all»
    refine wpAny_bind (m := oneArg "all" _) (wpAny_pure ?_)
    refine wpAny_bind (wpAny_pyIter_gen hig ?_)
    refine wpAny_pure ⟨plainId_quiet F.plain_all_loop _, ?_⟩
    rw [← yp, ← yw]
    refine loop_all hr.hd (by have := hr.depth; exact this) ho hgen (fun H' s' I' qd => ?_) (fun pl σ2 H' s' I' qs => ?_) _ _ (rdy _ _ W (fun _ _ => True) m H2 s5 (fun _ _ _ _ _ _ _ _ => trivial) w turn IY (fun _ _ e => e) rfl fun _ _ => rfl)
    · exact ⟨.bl true, H', back _ _ _ _ I', rfl, qd⟩
    · exact ⟨.bl false, H', back _ _ _ _ I', rfl, qs⟩
  subst e
  exact z
theorem pe_genAny {c P : Addr} {elt tg iter : Expr} {ifs : List Expr} {p pos gpos : Pos} {scope : Scope} {own : List (Str × Nat)} {wi : TI} {gt : TG} {tt : TT} {te : TE} {k : Nat}
    (hc : X.calm = true) (hr : Room (k + 1) X.A) (hg : Gl X "any") (hm : X.mg "any" = none) (TB : TabB X.base X.mg c P) (hcode : X.env.code = .ref c) (ok : BlkOk X.N X.env.scope scope own) (S : GScp scope) (hN : X.N.Nodup) (hi : PI X tg iter wi)
    (D : GParts X k scope tg ifs elt gt tt te) (hs : ∀ v, genFold iter X.env v = pure v)
    (he : starEach [.GeneratorExp elt [⟨tg, iter, ifs, 0⟩] scope gpos] X.env = (false, eval (.GeneratorExp elt [⟨tg, iter, ifs, 0⟩] scope gpos) X.env) :: starEach [] X.env := by rfl) :
    PE X (.Call (.Name "any" p) [.GeneratorExp elt [⟨tg, iter, ifs, 0⟩] scope gpos] [] pos) (tGenB true P wi gt tt te (own.map (·.2))) := by
  refine ⟨fun pins s σ H Q I h => ?_⟩
  refine wpAny_Call_Name_kw (ld_blt I hg hm (by decide +kernel : bootBuiltins "any" = some (.builtin "any")) ?_)
  refine PyProof.Rows.callWith_builtin1 ?_ he (by rfl)
  rw [he]
  show wpAny _ _ (spliced ((false, eval (.GeneratorExp elt [⟨tg, iter, ifs, 0⟩] scope gpos) X.env) :: backTo pos (starEach [] X.env))) _ _ s
  refine Calls.spliced_cons (gen_made hr TB hcode ok S hN hi hs I h fun J H2 u s5 hR M => ?_)
  refine Calls.spliced_nil ?_
  obtain ⟨W, ⟨m, w⟩, turn⟩ := hR
  obtain ⟨a, e, z⟩ := rdy_of (Rf := fun a s5 => wpAny (model X.prog X.w) X.A (call (.builtin "any") [.ref a]) (EP X pins σ Q) X.xe s5) hc hr S D M fun Y a g o eu ho hgen hig yp yw IY back rdy => by
    refine call_function_tree F.kind_any F.plain_any F.entry_any (F.args_any1 _) ?_
    unfold Builtin.«any»
    refine wpAny_bind (m := oneArg "any" _) (wpAny_pure ?_)
    refine wpAny_bind (wpAny_pyIter_gen hig ?_)
    refine wpAny_pure ⟨plainId_quiet F.plain_any_loop _, ?_⟩
    rw [← yp, ← yw]
    refine loop_any hr.hd (by have := hr.depth; exact this) ho hgen (fun H' s' I' qd => ?_) (fun pl σ2 H' s' I' qs => ?_) _ _ (rdy _ _ W (fun _ _ => True) m H2 s5 (fun _ _ _ _ _ _ _ _ => trivial) w turn IY (fun _ _ e => e) rfl fun _ _ => rfl)
    · exact ⟨.bl false, H', back _ _ _ _ I', rfl, qd⟩
    · exact ⟨.bl true, H', back _ _ _ _ I', rfl, qs⟩
  subst e
  exact z
theorem pe_genSum {c P : Addr} {elt tg iter : Expr} {ifs : List Expr} {p pos gpos : Pos} {scope : Scope} {own : List (Str × Nat)} {wi : TI} {gt : TG} {tt : TT} {te : TE} {k : Nat}
    (hc : X.calm = true) (hr : Room (k + 1) X.A) (hg : Gl X "sum") (hm : X.mg "sum" = none) (TB : TabB X.base X.mg c P) (hcode : X.env.code = .ref c) (ok : BlkOk X.N X.env.scope scope own) (S : GScp scope) (hN : X.N.Nodup) (hi : PI X tg iter wi)
    (D : GParts X k scope tg ifs elt gt tt te) (hs : ∀ v, genFold iter X.env v = pure v)
    (he : starEach [.GeneratorExp elt [⟨tg, iter, ifs, 0⟩] scope gpos] X.env = (false, eval (.GeneratorExp elt [⟨tg, iter, ifs, 0⟩] scope gpos) X.env) :: starEach [] X.env := by rfl) :
    PE X (.Call (.Name "sum" p) [.GeneratorExp elt [⟨tg, iter, ifs, 0⟩] scope gpos] [] pos) (tGenS P wi gt tt te (own.map (·.2))) := by
  refine ⟨fun pins s σ H Q I h => ?_⟩
  refine wpAny_Call_Name_kw (ld_blt I hg hm (by decide +kernel : bootBuiltins "sum" = some (.builtin "sum")) ?_)
  refine PyProof.Rows.callWith_builtin1 ?_ he (by rfl)
  rw [he]
  show wpAny _ _ (spliced ((false, eval (.GeneratorExp elt [⟨tg, iter, ifs, 0⟩] scope gpos) X.env) :: backTo pos (starEach [] X.env))) _ _ s
  refine Calls.spliced_cons (gen_made hr TB hcode ok S hN hi hs I h fun J H2 u s5 hR M => ?_)
  refine Calls.spliced_nil ?_
  obtain ⟨a, e, z⟩ := rdy_of (Rf := fun a s5 => wpAny (model X.prog X.w) X.A (call (.builtin "sum") [.ref a]) (EP X pins σ Q) X.xe s5) hc hr S D M fun Y a g o eu ho hgen hig yp yw IY back rdy => by
    refine call_function_tree F.kind_sum F.plain_sum F.entry_sum (F.args_sum1 _) ?_
    unfold Builtin.«sum»
    simp only [List.length_cons, List.length_nil]
    rw [if_neg (by decide)]
    refine wpAny_bind (wpAny_of_eq (show Builtin.Builtins.bindParams "sum" ["start"] 0 { } = pure [none] from rfl) ?_)
    refine wpAny_bind (wpAny_pyIter_gen hig ?_)
    refine wpAny_bind (wpAny_mkInt ?_)
    refine wpAny_bind (wpAny_pure ?_)
    simp only [List.forIn_cons, List.forIn_nil]
    refine wpAny_bind (wpAny_bind (wpAny_bind (wpAny_isInstance (T := "int") (b := false) (typeIs_int _ _ _) PySem.sub_int_str ?_)))
    simp only [Bool.false_eq_true, if_false]
    refine wpAny_pure (wpAny_bind (wpAny_bind (wpAny_isInstance (T := "int") (b := false) (typeIs_int _ _ _) PySem.sub_int_bytes ?_)))
    simp only [Bool.false_eq_true, if_false]
    refine wpAny_pure (wpAny_bind (wpAny_bind (wpAny_isInstance (T := "int") (b := false) (typeIs_int _ _ _) PySem.sub_int_bytearray ?_)))
    simp only [Bool.false_eq_true, if_false]
    refine wpAny_pure (wpAny_pure ?_)
    refine wpAny_bind (wpAny_newObj_type ?_)
    refine wpAny_pure ⟨plainId_quiet F.plain_sum_loop _, ?_⟩
    generalize hS : s5.heap.objs.size = S'
    have nS : H2 S' = none := IY.hok.fresh (Nat.le_of_eq hS)
    obtain ⟨W, ⟨m, w⟩, hW, turn⟩ := hR S' nS
    have aS : a < S' := by
      obtain ⟨o', _, _, e', _⟩ := hig
      rw [← hS]; exact Heap.lt_size e'
    have new : (s5.heap.push { cls := .type "list", data := .seq [Value.int 0 s5.toks].toArray }).get? S' = some { cls := .type "list", dict := none, data := .seq #[.int 0 s5.toks] 0, slots := #[] } := by
      rw [← hS]; exact Heap.get?_push_size _ rfl
    have I6 := IY.laid (t' := s5.toks + 1) (h' := s5.heap.push { cls := .type "list", data := .seq [Value.int 0 s5.toks].toArray }) (a := S') (o := .lst [.int 0]) (fun b o e => Heap.get?_push_of_some _ e) (Nat.le_of_eq hS) ⟨by show 1 ≤ sizeLine; decide, [.int 0 s5.toks], 0, .cons ⟨_, rfl⟩ .nil, new⟩
    rw [← yp, ← yw]
    refine loop_sum hr.hd (by have := hr.depth; exact this) ho hgen (fun n t H' s' I' qd hn => ?_) (m + 1) _ [] _ _ 0 0 (.inl rfl) I6 upd_same
      (rdy _ _ W (svS S') m _ _ (fun σ pl i m H s I' w' => by obtain ⟨n, e⟩ := hW m i H w'; exact svS_of I' e) w turn I6 (fun b o e => Heap.get?_push_of_some _ e) rfl fun b hb => upd_ne (Nat.ne_of_lt (Nat.lt_trans hb aS)))
    exact ⟨.int n, H', back _ _ _ _ I', ⟨t, rfl⟩, qd n hn⟩
  subst e
  exact z
end
end GG
end
section
set_option Elab.async false
set_option autoImplicit false
set_option linter.all false
set_option maxRecDepth 100000
set_option maxHeartbeats 2000000
/-! G2: enumerate of a tuple; a dict's keys, the dict any object. -/
namespace GG
open L2 PySem PySem.Spec PyProof.Rows
open Sem (wp)
/-! ### enumerate(a tuple) -/
theorem meets_enum_one {v : Value} {o : Obj} {H : Heap → Prop} (B : Begins v o H) :
    Meets (Builtin.«enumerate.__new__» ⟨[.type "enumerate", v], []⟩) (fun _ R s => H s.heap ∧
      R (.ok (.ret (.ref (s.heap.push o).objs.size))) { s with heap := (s.heap.push o).push { cls := .type "enumerate", data := .fields #[.none, .bool false, .ref s.heap.objs.size, rawInt 0, .none, .none] } }) :=
  .of_wp fun prog w A R s h => by
    obtain ⟨hp, gs, dr, tk, os⟩ := s; obtain ⟨h1, h⟩ := h
    have hsub := sub_enumerate
    have q1 : ∀ {A' : Around} {E : Value → Shared → Prop} {Q : Value → Shared → Prop}, Q (.ref hp.objs.size) ⟨hp.push o, gs, dr, tk, os⟩ → wpAny (model prog w) A' (pyIter v) Q E ⟨hp, gs, dr, tk, os⟩ :=
      fun q => B.iter prog w _ _ ⟨hp, gs, dr, tk, os⟩ _ h1 q
    wp_walk using q1
    refine wpAny_stack_any fun st => wpAny_pure ?_
    split
    · rename_i c _ _ _ _ _
      cases (c == Value.type "enumerate")
      · wp_walk using q1
        exact ⟨_, rfl, h⟩
      · wp_walk using q1
        exact ⟨_, rfl, h⟩
    · wp_walk using q1
      exact ⟨_, rfl, h⟩
theorem call_enum_one {prog : Program} {w : World} {A : Around} {E : Value → Shared → Prop} {s : Shared} {v : Value} {o : Obj} {H : Heap → Prop} {Q : Value → Shared → Prop} (B : Begins v o H) (h1 : H s.heap)
    (h : ∀ h', IsEnum h' (s.heap.objs.size + 1) s.heap.objs.size 0 .none → h'.get? s.heap.objs.size = some o → h'.objs.size = s.heap.objs.size + 2 → (∀ b o, s.heap.get? b = some o → h'.get? b = some o) → Q (.ref (s.heap.objs.size + 1)) { s with heap := h' }) :
    wpAny (model prog w) A (call (.type "enumerate") [v]) Q E s := by
  refine callType_new F.called_enumerate (by decide) (F.typeCall_enumerate_1 _) (F.newCall_enumerate_1 _) (fun obj => F.args_object_init_2 obj _) F.entry_enumerate_new (meets_enum_one B) ⟨h1, ?_⟩
  have hz : (s.heap.push o).objs.size = s.heap.objs.size + 1 := Heap.size_push ..
  show _ ∧ _
  rw [hz]
  have he : IsEnum ((s.heap.push o).push { cls := .type "enumerate", data := .fields #[.none, .bool false, .ref s.heap.objs.size, rawInt 0, .none, .none] }) (s.heap.objs.size + 1) s.heap.objs.size 0 .none := by
    have := Heap.get?_push_size (s.heap.push o) (o := { cls := .type "enumerate", data := .fields #[.none, .bool false, .ref s.heap.objs.size, rawInt 0, .none, .none] }) rfl
    rw [hz] at this; exact this
  refine ⟨⟨_, he, rfl⟩, h _ he (Heap.get?_push_of_some _ (Heap.get?_push_size _ B.free)) (by rw [Heap.size_push, hz]) fun b o x => Heap.get?_push_of_some _ (Heap.get?_push_of_some _ x)⟩
def IteT (K : PySem.W.Frag) (a : Addr) : It :=
  ⟨fun i H => ∃ (xs : List V) (x : V), SqT K H a xs ∧ xs[i]? = some x,
    fun i H v H' => ∃ T x, v = .ref T ∧ H T = none ∧ H' = upd H T (.tup [.int (i : Nat), x]) ∧ ∀ xs, SqT K H a xs → xs[i]? = some x,
    fun i H => ∃ xs, SqT K H a xs ∧ i = xs.length⟩
theorem turn_enumT {P : Program} {w : World} {K : PySem.W.Frag} {elts : List Expr} {kk : Nat} {tpos : Pos} (a e it : Addr) :
    Turn P w K (.Tuple elts kk tpos) (IteT K a) [e, it] e (fun i h => (∃ old, IsEnum h e it ((i : Nat) : Int) old) ∧ h.IsTupleIter it a i ∧ e ≠ it) where
  mem := by simp
  obj := fun i h st b hb => by
    obtain ⟨⟨old, he⟩, ⟨o, ho, hc, hd⟩, _⟩ := st
    have e' : b = e ∨ b = it := by simpa using hb
    rcases e' with z | z
    · rw [z]; exact ⟨_, he, fun v q => nomatch q⟩
    · rw [z]; exact ⟨o, ho, fun v q => by rw [hd] at q; cases q⟩
  keep := fun i h h' st k => let ⟨⟨old, he⟩, hi, hne⟩ := st; ⟨⟨old, k e (by simp) _ he⟩, hi.at fun o q => k it (by simp) o q, hne⟩
  item := by
    intro X hP hw hK hc i pins s σ H E I hf st hg
    subst hP hw hK
    obtain ⟨⟨old, he⟩, hit, hne⟩ := st
    obtain ⟨xs, x, hq, hx⟩ := hg
    obtain ⟨its, rv, p, hz⟩ := I.tuple hq
    obtain ⟨u, hu, ru⟩ := rv.get hx
    have hel : e < s.heap.objs.size := Heap.lt_size he
    have hil : it < s.heap.objs.size := by obtain ⟨_, q, _⟩ := hit; exact Heap.lt_size q
    have p' : s.heap.IsTuple a its.toArray := p
    have nea : e ≠ a := fun z => by
      obtain ⟨o, ho, hcl, _⟩ := p'
      rw [← z, he] at ho
      cases ho
      have hcl : (Value.type "enumerate" : Value) = .type "tuple" := hcl
      exact absurd hcl (by decide)
    have nia : a ≠ it := fun z => by
      obtain ⟨o, ho, hcl, _⟩ := p'
      obtain ⟨o2, ho2, hcl2, _⟩ := hit
      rw [z, ho2] at ho
      cases ho
      rw [hcl] at hcl2
      exact absurd hcl2 (by decide)
    have D := Draws.tuple (prog := X.prog) (w := X.w) (A := X.A.in1) (I.ok.hd hc) it a nia its.toArray
    refine wpAny_pyNext_enum_itemD D he ⟨hit, p'⟩ (by obtain ⟨h1, _⟩ := List.getElem?_eq_some_iff.mp hu; simpa using h1) hne (by simp [hne, nea]) fun y h' tk hy ho hit' hT hsz hk => ?_
    have ey : y = u := by
      have : its[i]? = some y := by simpa using hy
      rw [hu] at this
      cases this
      rfl
    subst ey
    refine ⟨_, rfl, wpAny_letOwnedTupleGo_enum (s := { s with heap := h', toks := tk + 1 }) ho fun h'' he' sb => ?_⟩
    have hT2 : h''.get? s.heap.objs.size = some { cls := .type "tuple", data := .seq #[.int i tk, y] } := (sb.2 _ (Nat.ne_of_gt hel)).trans hT
    have new : ObjOk X.prog X.w (upd H s.heap.objs.size (.tup [.int (i : Nat), x])) h'' s.heap.objs.size (.tup [.int (i : Nat), x]) :=
      ⟨by show 2 ≤ sizeLine; decide, [.int i tk, y], .cons ⟨_, rfl⟩ (.cons ru .nil), ⟨_, hT2, rfl, _, rfl⟩⟩
    have I1 : Inv X pins σ (upd H s.heap.objs.size (.tup [.int (i : Nat), x])) { s with heap := h'', toks := tk + 1 } :=
      I.turnedNew (ch := [e, it]) (fun b ob hb q => (sb.2 b (fun z => hb (by simp [z]))).trans (hk b ob (fun z => hb (by simp [z])) (fun z => hb (by simp [z])) q)) hf (Nat.le_refl _) new
    refine ⟨.ref s.heap.objs.size, _, I1, rfl, ⟨_, x, rfl, I.hok.fresh (Nat.le_refl _), rfl, fun ys hy => by rw [I.tuple_inj hy hq]; exact hx⟩, ⟨⟨y, ?_⟩, hit'.1.at fun o q => (sb.2 it (Ne.symm hne)).trans q, hne⟩, fun b hb => ?_⟩
    · have e1 : ((i + 1 : Nat) : Int) = (i : Int) + 1 := by omega
      rw [e1]; exact he'
    · have hb' : b < s.heap.objs.size := by
        have e' : b = e ∨ b = it := by simpa using hb
        rcases e' with z | z
        · rw [z]; exact hel
        · rw [z]; exact hil
      rw [upd_ne (Nat.ne_of_lt hb')]
      exact (hf b hb).1
  done := by
    intro X hP hw hK hc i pins s σ H E I hf st hg
    subst hP hw hK
    obtain ⟨⟨old, he⟩, hit, hne⟩ := st
    obtain ⟨xs, hq, hx⟩ := hg
    obtain ⟨its, rv, p, hz⟩ := I.tuple hq
    obtain ⟨f0, f1, f2, f3, f4, f5⟩ := hf it (by simp)
    have p' : s.heap.IsTuple a its.toArray := p
    have nia : a ≠ it := fun z => by
      obtain ⟨o, ho, hcl, _⟩ := p'
      obtain ⟨o2, ho2, hcl2, _⟩ := hit
      rw [z, ho2] at ho
      cases ho
      rw [hcl] at hcl2
      exact absurd hcl2 (by decide)
    have hl : i = its.toArray.size := by rw [hx, rv.length, List.size_toArray]
    have D := Draws.tuple (prog := X.prog) (w := X.w) (A := X.A.in1) (I.ok.hd hc) it a nia its.toArray
    exact wpAny_pyNext_enum_endD D he ⟨hl ▸ hit, p'⟩ fun h' eb => ⟨rfl, I.turned (t' := s.toks) (fun b o hb q => eb b o hb q) f0 f1 f3 f4 f5⟩
  self := fun A i s Q E st h => let ⟨⟨_, he⟩, _⟩ := st; wpAny_pyIter_enum he h
def iEnumT (K : PySem.W.Frag) (ta : TA) : TI := fun σ H R => ta σ H fun vs H1 => ∃ a xs, vs = [.ref a] ∧ SqT K H1 a xs ∧ R (IteT K a) H1
theorem pi_enumT {X : Cx} {e : Expr} {ta : TA} {p pos tpos : Pos} {elts : List Expr} {kk : Nat} (hg : Gl X "enumerate") (hm : X.mg "enumerate" = none) (ha : PA X [e] ta) (hs : starEach [e] X.env = [(false, eval e X.env)] := by rfl) :
    PI X (.Tuple elts kk tpos) (.Call (.Name "enumerate" p) [e] [] pos) (iEnumT X.K ta) := by
  refine ⟨fun pins s σ H R I h => ?_⟩
  refine Call_ (ld_blt I hg hm boot_enumerate (PyProof.Rows.callWith_type1 (thn (ha.run pos pins s σ H _ I h) fun us s1 ⟨vs, H1, I1, r1, q1⟩ => ?_) hs rfl))
  obtain ⟨a, xs, ex, hq, q⟩ := q1
  subst ex
  cases r1 with
  | cons r rr =>
    cases rr
    cases r
    obtain ⟨its, rv, p', hz⟩ := I1.tuple hq
    have p2 : s1.heap.IsTuple a its.toArray := p'
    refine call_enum_one (begins_tuple a its.toArray) p2 fun h' he hit hsz hk => wpAny_pyIter_enum he ?_
    have I2 : Inv X pins σ H1 { s1 with heap := h' } := I1.kept (t' := s1.toks) hk
    refine ⟨s1.heap.objs.size + 1, [s1.heap.objs.size + 1, s1.heap.objs.size], _, _, H1, rfl, I2, turn_enumT a (s1.heap.objs.size + 1) s1.heap.objs.size, ⟨⟨.none, he⟩, ⟨_, hit, rfl, rfl⟩, Nat.succ_ne_self _⟩, fun b hb => ?_, q⟩
    have e' : b = s1.heap.objs.size + 1 ∨ b = s1.heap.objs.size := by simpa using hb
    have hle : s1.heap.objs.size ≤ b := by
      rcases e' with z | z
      · rw [z]; exact Nat.le_add_right _ _
      · rw [z]; exact Nat.le_refl _
    exact I1.fpOk hle (I1.hok.fresh hle)
end GG
end
section
set_option Elab.async false
set_option autoImplicit false
set_option linter.all false
set_option maxRecDepth 100000
set_option maxHeartbeats 1000000
/-! G3: dicts whose keys are nested tuples: reading, storing, the display, the walk of the keys. -/
namespace DL
open L2 PySem PySem.Spec PyProof.Rows
/-- the tuple at a is the key k, in every heap that H tells -/
def NK (P : Program) (w : World) (H : Hp) (a : Addr) (k : NestedKey) : Prop := ∀ h, HOk P w H h → (nestedKind P w).is h k a
section
variable {P : Program} {w : World} {r0 : Addr} {G H : Hp}
mutual
theorem nest_of {h : Heap} (ok : HOk P w H h) (e : Same G H) : ∀ (n : Nat) (d : PL.D) (v : V) (u : Value), d.keyOk n = true → Dv P w r0 G v d → RelV v u → NestedIs h (key d) u
  | _, .int i, _, u, _, hv, r => by
    cases hv
    obtain ⟨t, rfl⟩ := r
    exact .int i t
  | n + 1, .tup ds, _, u, hk, hv, r => by
    have hk : ds.all (PL.D.keyOk n) = true := by simpa [PL.D.keyOk] using hk
    cases hv with
    | tup h1 h2 =>
      rename_i a xs
      cases r
      obtain ⟨_, its, rv, o, ho, hc, m, hd⟩ := ok a _ (e _ _ h1)
      exact .tup ho hc hd (by simpa using nests_of ok e n ds xs its hk h2 rv)
  | 0, .tup _, _, _, hk, _, _ => by simp [PL.D.keyOk] at hk
  | n, .non, _, _, hk, _, _ => by cases n <;> simp [PL.D.keyOk] at hk
  | n, .bl _, _, _, hk, _, _ => by cases n <;> simp [PL.D.keyOk] at hk
  | n, .lst _, _, _, hk, _, _ => by cases n <;> simp [PL.D.keyOk] at hk
  | n, .dki _, _, _, hk, _, _ => by cases n <;> simp [PL.D.keyOk] at hk
  | n, .dkt _, _, _, hk, _, _ => by cases n <;> simp [PL.D.keyOk] at hk
  | n, .row, _, _, hk, _, _ => by cases n <;> simp [PL.D.keyOk] at hk
theorem nests_of {h : Heap} (ok : HOk P w H h) (e : Same G H) : ∀ (n : Nat) (ds : List PL.D) (vs : List V) (us : List Value), ds.all (PL.D.keyOk n) = true → DvA P w r0 G vs ds → Vals vs us → NestedAll h (keys ds) us
  | _, [], _, us, _, hv, r => by cases hv; cases r; exact .nil
  | n, d :: ds, _, us, hk, hv, r => by
    have hk : d.keyOk n = true ∧ ds.all (PL.D.keyOk n) = true := by simpa using hk
    cases hv with
    | cons h1 h2 =>
      cases r with
      | cons r1 r2 => exact .cons (nest_of ok e n d _ _ hk.1 h1 r1) (nests_of ok e n ds _ _ hk.2 h2 r2)
end
theorem nk_of {a : Addr} {d : PL.D} (e : Same G H) (hk : d.keyOk 3 = true) (h : Dv P w r0 G (.ref a) d) : NK P w H a (key d) := fun h' ok =>
  ⟨nest_of ok e 3 d _ _ hk h rfl, by have := key_depth 3 d hk; omega⟩
/-- the keys of a dict stand -/
def NKs (P : Program) (w : World) (H : Hp) (xs : List (NestedKey × Addr × Value)) : Prop := ∀ x ∈ xs, NK P w H x.2.1 x.1
theorem nks_of {xs : List (NestedKey × Addr × Value)} {es : List (PL.D × PL.D)} (e : Same G H) : DvT P w r0 G xs es → NKs P w H xs
  | .nil => fun _ hx => by simp at hx
  | .cons h1 h2 h3 h4 h5 => fun x hx => by
    rcases List.mem_cons.mp hx with z | z
    · rw [z]; exact nk_of e h2 h1
    · exact nks_of e h5 x z
theorem dictOf {X : Cx} {pins : List (Addr × Obj)} {σ : L2.St} {s : Shared} {a : Addr} {o : Obj} {xs : List (NestedKey × Addr × Value)} (I : Inv X pins σ H s) (ha : H a = some (exact a o)) (ho : DObj X.prog X.w o xs) (nk : NKs X.prog X.w H xs) :
    s.heap.DictOfH (nestedKind X.prog X.w) a xs := by
  obtain ⟨e, _⟩ := I.hok a _ ha
  obtain ⟨h1, ⟨es, ep, h2, h3⟩, h4, _⟩ := ho
  exact ⟨o, es, ep, e, h1, h2, h3, fun x hx => nk x hx _ I.hok, h4⟩
end

/-! ### data by keys -/
section
variable {P : Program} {w : World} {r0 : Addr} {G H : Hp}
theorem getD_at : ∀ {xs : List (NestedKey × Addr × Value)} {es : List (PL.D × PL.D)} {k : PL.D}, DvT P w r0 G xs es → k.keyOk 3 = true →
    (∀ d, PL.getD es k = some d → ∃ p v, atKey xs (key k) = some p ∧ RelV v p.2 ∧ Dv P w r0 G v d) ∧ (PL.getD es k = none → atKey xs (key k) = none)
  | _, _, k, .nil, _ => ⟨fun d h => (by cases h), fun _ => rfl⟩
  | _, _, k, .cons (b := b) (k := k1) (d := d1) (v := v) (u := u) (r := r) (s := s) h1 h2 h3 h4 h5, hk => by
    have ih := getD_at h5 hk
    have hb := key_beq 3 k1 k h2 hk
    have hd : decide (key k1 = key k) = k1.beq k := by rw [NestedKey.decide_eq, hb]
    unfold PL.getD atKey
    rw [List.find?_cons]
    dsimp only
    rw [hd]
    cases q : k1.beq k with
    | true =>
      rw [if_pos rfl]
      refine ⟨fun d h => ?_, fun h => by cases h⟩
      cases h
      exact ⟨_, _, rfl, h3, h4⟩
    | false =>
      rw [if_neg (by decide)]
      exact ih
theorem at_isSome {xs : List (NestedKey × Addr × Value)} {es : List (PL.D × PL.D)} {k : PL.D} (h : DvT P w r0 G xs es) (hk : k.keyOk 3 = true) : (atKey xs (key k)).isSome = (PL.getD es k).isSome := by
  obtain ⟨h1, h2⟩ := getD_at h hk
  cases q : PL.getD es k with
  | none => rw [h2 q]; rfl
  | some d =>
    obtain ⟨p, v, e, _⟩ := h1 d q
    rw [e]
    rfl
theorem dvt_length : ∀ {xs : List (NestedKey × Addr × Value)} {es : List (PL.D × PL.D)}, DvT P w r0 G xs es → xs.length = es.length
  | _, _, .nil => rfl
  | _, _, .cons _ _ _ _ t => by rw [List.length_cons, List.length_cons, dvt_length t]
theorem dvt_notmem : ∀ {xs : List (NestedKey × Addr × Value)} {es : List (PL.D × PL.D)} {k : PL.D}, DvT P w r0 G xs es → k.keyOk 3 = true → atKey xs (key k) = none → ∀ x ∈ xs, x.1 ≠ key k := fun {xs es k} h hk e x hx z => by
  unfold atKey at e
  have e := Option.map_eq_none_iff.mp e
  rw [List.find?_eq_none] at e
  exact e x hx (by simpa using z)
theorem dvt_snoc {b : Addr} {k d : PL.D} {v : V} {u : Value} (h1 : Dv P w r0 G (.ref b) k) (hk : k.keyOk 3 = true) (rv : RelV v u) (hv : Dv P w r0 G v d) : ∀ {xs : List (NestedKey × Addr × Value)} {es : List (PL.D × PL.D)}, DvT P w r0 G xs es → DvT P w r0 G (xs ++ [(key k, b, u)]) (es ++ [(k, d)])
  | _, _, .nil => .cons h1 hk rv hv .nil
  | _, _, .cons a1 a2 a3 a4 a5 => .cons a1 a2 a3 a4 (dvt_snoc h1 hk rv hv a5)
theorem putAt_id {k : NestedKey} {u : Value} : ∀ {xs : List (NestedKey × Addr × Value)}, (∀ x ∈ xs, x.1 ≠ k) → xs.map (putAt k u) = xs
  | [], _ => rfl
  | x :: xs, h => by
    rw [List.map_cons, putAt_id fun y hy => h y (List.mem_cons_of_mem _ hy)]
    unfold putAt
    rw [if_neg (h x List.mem_cons_self)]
theorem putD_none : ∀ {es : List (PL.D × PL.D)} {k d : PL.D}, PL.getD es k = none → PL.putD es k d = es ++ [(k, d)]
  | [], _, _, _ => rfl
  | p :: r, k, d, h => by
    unfold PL.getD at h
    unfold PL.putD
    split at h
    · cases h
    · rename_i q
      rw [if_neg q, putD_none h]
      rfl
theorem putD_old {k d : PL.D} {v : V} {u : Value} (hk : k.keyOk 3 = true) (rv : RelV v u) (hv : Dv P w r0 G v d) : ∀ {xs : List (NestedKey × Addr × Value)} {es : List (PL.D × PL.D)}, DvT P w r0 G xs es → (xs.map (·.1)).Nodup → (PL.getD es k).isSome = true → DvT P w r0 G (xs.map (putAt (key k) u)) (PL.putD es k d)
  | _, _, .nil, _, h => by cases h
  | _, _, .cons (b := b) (k := k1) (d := d1) (u := u1) (r := r) (s := s) a1 a2 a3 a4 a5, nd, h => by
    have nd' := List.nodup_cons.mp (show (key k1 :: r.map (·.1)).Nodup from nd)
    have hb := key_beq 3 k1 k a2 hk
    have hd : decide (key k1 = key k) = k1.beq k := by rw [NestedKey.decide_eq, hb]
    unfold PL.getD at h
    unfold PL.putD
    rw [List.map_cons]
    cases q : k1.beq k with
    | true =>
      rw [q] at hd
      have e : key k1 = key k := of_decide_eq_true hd
      dsimp only
      rw [if_pos rfl]
      have e2 : putAt (key k) u (key k1, b, u1) = (key k1, b, u) := by unfold putAt; rw [if_pos e]
      rw [e2, putAt_id fun x hx z => nd'.1 (by rw [e, ← z]; exact List.mem_map_of_mem hx)]
      exact .cons a1 a2 rv hv a5
    | false =>
      rw [q] at hd
      have e : key k1 ≠ key k := of_decide_eq_false hd
      dsimp only at h ⊢
      rw [q, if_neg (by decide)] at h
      rw [if_neg (by decide)]
      have e2 : putAt (key k) u (key k1, b, u1) = (key k1, b, u1) := by unfold putAt; rw [if_neg e]
      rw [e2]
      exact .cons a1 a2 a3 a4 (putD_old hk rv hv a5 nd'.2 h)
theorem dvt_stored {b : Addr} {k d : PL.D} {v : V} {u : Value} {xs : List (NestedKey × Addr × Value)} {es : List (PL.D × PL.D)} (h1 : Dv P w r0 G (.ref b) k) (hk : k.keyOk 3 = true) (rv : RelV v u) (hv : Dv P w r0 G v d) (h : DvT P w r0 G xs es) (nd : (xs.map (·.1)).Nodup) :
    DvT P w r0 G (storedH xs (key k) b u) (PL.putD es k d) ∧ (storedH xs (key k) b u).length ≤ xs.length + 1 ∧ ((storedH xs (key k) b u).map (·.1)).Nodup := by
  cases q : PL.getD es k with
  | none =>
    have e := (getD_at h hk).2 q
    rw [storedH_new e, putD_none q]
    refine ⟨dvt_snoc h1 hk rv hv h, by simp, ?_⟩
    rw [List.map_append]
    refine List.nodup_append.mpr ⟨nd, by simp, fun x hx y hy z => ?_⟩
    obtain ⟨p, hp, rfl⟩ := List.mem_map.mp hx
    have hy : y = key k := by simpa using hy
    exact dvt_notmem h hk e p hp (z.trans hy)
  | some d1 =>
    obtain ⟨p, v1, e, _⟩ := (getD_at h hk).1 d1 q
    rw [storedH_old e]
    refine ⟨putD_old hk rv hv h nd (by rw [q]; rfl), by simp, ?_⟩
    have : (xs.map (putAt (key k) u)).map (·.1) = xs.map (·.1) := by
      rw [List.map_map]
      refine List.map_congr_left fun x _ => ?_
      show (putAt (key k) u x).1 = x.1
      unfold putAt
      split <;> rfl
    rw [this]
    exact nd
theorem keyT_ok {k : PL.D} (h : k.keyT = true) : k.keyOk 3 = true := by
  cases k <;> first | exact h | cases h
theorem keyT_ref {k : PL.D} {v : V} (h : k.keyT = true) (hv : Dv P w r0 G v k) : ∃ b, v = .ref b := by
  cases k <;> first | cases h | skip
  cases hv
  exact ⟨_, rfl⟩
end

/-! ### rules -/
section
variable {X : Cx} {T : List Addr} {O : List Nat} {a b c : Expr} {pos : Pos} {fb fc : PL.Ex}
/-- an expression that gives a dict, by keys -/
def tDict (P : Program) (w : World) (K : PySem.W.Frag) (T : List Addr) (O : List Nat) (f : PL.Ex) : TE := fun σ H Q =>
  ∃ (B : Bs) (G : Hp) (s : PL.Sl) (r : PL.Row) (es : List (PL.D × PL.D)) (r' : PL.Row), B.tabs = T ∧ BOk K B ∧ Rel P w B O σ H G s r ∧ f s r = some (.dkt es, r') ∧
    ∀ a o xs H' G', Rel P w B O σ H' G' s r' → Same G G' → H' a = some (exact a o) → (a == sysModules) = false → DObj P w o xs → DvT P w B.r0 G' xs es → Q (.ref a) H'
/-- .. and is read again: what holds of it stands while others are computed -/
structure DD (X : Cx) (T : List Addr) (O : List Nat) (e : Expr) (f : PL.Ex) (te : TE) : Prop where
  pe : PE X e te
  rd : ∀ (B : Bs) (σ : L2.St) (H G : Hp) (s : PL.Sl) (r r' : PL.Row) (es : List (PL.D × PL.D)) (Q : VK), B.tabs = T → BOk X.K B → Rel X.prog X.w B O σ H G s r → f s r = some (.dkt es, r') →
    (∀ a H' G' r'', Rel X.prog X.w B O σ H' G' s r' → Same G G' → (∀ H2 G2 r2, Rel X.prog X.w B O σ H2 G2 s r2 → Same G' G2 → ∃ o xs, H2 a = some (exact a o) ∧ (a == sysModules) = false ∧ DObj X.prog X.w o xs ∧ DvT X.prog X.w B.r0 G2 xs es) → r'' = r' → Q (.ref a) H') → te σ H Q
theorem dd_fro {f : PL.Ex} (h : DE X T O a f) : DD X T O a f (tE X.prog X.w X.K T O f) := by
  refine ⟨h, fun B σ H G s r r' es Q hT bo R hf q => ?_⟩
  refine ⟨B, G, s, r, _, r', hT, bo, R, hf, fun v H' G' R' S' D' => ?_⟩
  cases D' with
  | dkt h1 h2 h3 h4 =>
    exact q _ H' G' r' R' S' (fun H2 G2 r2 R2 S2 => ⟨_, _, R2.sub _ _ (S2 _ _ h1), h2, h3, h4.mono S2⟩) rfl
theorem dd_own (i : Nat) {x : Str} (hi : i ∈ O := by decide) (hN : X.N[i]? = some x := by rfl) (hv : Vis X.env.scope x := by first | exact Or.inl rfl | exact Or.inr (Or.inl rfl) | exact Or.inr (Or.inr rfl))
    (hd : (x == ("__debug__" : Str)) = false := by decide) (hcd : (x == ("__classdict__" : Str)) = false := by decide) : DD X T O (.Name x pos) (PL.eVar i) (tVar i) := by
  refine ⟨pe_var hN hv hd hcd, fun B σ H G s r r' es Q hT bo R hf q => ?_⟩
  unfold PL.eVar at hf
  split at hf
  · rename_i d' e
    cases hf
    obtain ⟨a, h1, h2, h3, h4, o, xs, h5, h6, h7, h8⟩ := R.own i hi _ e
    refine ⟨.ref a, h1, q a H G r R (Same.refl _) (fun H2 G2 r2 R2 S2 => ?_) rfl⟩
    obtain ⟨a', g1, g2, g3, g4, o', xs', g5, g6, g7, g8⟩ := R2.own i hi _ e
    rw [h1] at g1
    cases g1
    exact ⟨o', xs', g5, g6, g7, g8⟩
  · cases hf
theorem de_get {fa : PL.Ex} {ta : TE} (hu : X.A.units + 9 < cLine) (ha : DD X T O a fa ta) (hb : DE X T O b fb) (hs : NoSl b := by exact fun _ _ => rfl) : DE X T O (.Subscript a b pos) (PL.eBin PL.oGet fa fb) := by
  refine ⟨fun pins s σ H Q I hq => ?_⟩
  obtain ⟨B, G, sl, rw, d, r', hT, bo, R, hf, q⟩ := hq
  obtain ⟨x, r1, y, ea, eb, ef⟩ := bin_some hf
  cases x with
  | dkt es =>
    have ef : (if y.keyT = true then PL.getD es y else none) = some d := ef
    split at ef
    · rename_i hk
      refine subD_of PySem.F.slot_dict_getitem.lookup hs (thn (ha.pe.run pins s σ H _ I (ha.rd B σ H G sl rw r1 es (fun x H1 => tE X.prog X.w X.K T O fb σ H1 fun y H2 => ∃ a b o xs p v, x = .ref a ∧ y = .ref b ∧ H2 a = some (exact a o) ∧ DObj X.prog X.w o xs ∧ NKs X.prog X.w H2 xs ∧ ∃ k, NK X.prog X.w H2 b k ∧ atKey xs k = some p ∧ RelV v p.2 ∧ Q v H2)
        hT bo R ea fun a1 H1 G1 _ R1 S1 again _ => ?_)) fun u s1 ⟨x, H1, I1, rx, q1⟩ => thn (hb.run pins s1 σ H1 _ I1 q1) fun iv s2 ⟨y, H2, I2, ry, a1, b1, o, xs, p, v, ex, ey, e1, e2, e3, k, e4, e5, e6, q2⟩ => ?_)
      · refine ⟨B, G1, sl, r1, y, r', hT, bo, R1, eb, fun v H2 G2 R2 S2 D2 => ?_⟩
        obtain ⟨o, xs, g1, g2, g3, g4⟩ := again H2 G2 r' R2 S2
        obtain ⟨b1, rfl⟩ := keyT_ref hk D2
        obtain ⟨p, v1, g5, g6, g7⟩ := (getD_at g4 (keyT_ok hk)).1 d ef
        exact ⟨a1, b1, o, xs, p, v1, rfl, rfl, g1, g3, nks_of R2.sub g4, key y, nk_of R2.sub (keyT_ok hk) D2, g5, g6, q v1 H2 G2 R2 (S1.trans S2) g7⟩
      · subst ex ey
        cases rx
        cases ry
        have Dt := dictOf I2 e1 e2 e3
        exact ⟨Dt.typeIs, wpAny_getItem_heap (knd := nestedKind X.prog X.w) (by show X.A.units + 1 + 8 < cLine; omega) (e4 _ I2.hok) Dt e5 ⟨v, H2, I2.tok _, e6, q2⟩⟩
    · cases ef
  | _ => cases ef
theorem dc_notInT {fa : PL.Ex} {tb : TE} (hu : X.A.units + 9 < cLine) (ha : DE X T O a fa) (hb : DD X T O b fb tb) (hm : behindInMarks .NotIn b = false := by with_unfolding_all rfl) : DC X T O (.Compare a [.NotIn] [b] pos) (PL.eBin PL.oNotInT fa fb) := by
  have hop : OpR X (compareOp .NotIn) (fun x y H Q => ∃ a b o xs k, x = .ref b ∧ y = .ref a ∧ H a = some (exact a o) ∧ (a == sysModules) = false ∧ DObj X.prog X.w o xs ∧ NKs X.prog X.w H xs ∧ NK X.prog X.w H b k ∧ Q (.bl (!(atKey xs k).isSome)) H) := by
    intro pins s σ H x y v u Q I rx ry h
    obtain ⟨a1, b1, o, xs, k, rfl, rfl, e1, hs, e2, e3, e4, q⟩ := h
    cases rx
    cases ry
    have Dt := dictOf I e1 e2 e3
    refine notIn_keyed (knd := nestedKind X.prog X.w) (kvs := pairsH xs) (by show X.A.units + 1 + 8 < cLine; omega) (e4 _ I.hok) hs ⟨xs, Dt, rfl⟩ ⟨.bl _, H, I.tok _, rfl, ?_⟩
    rw [valueAt_pairsH, Option.isSome_map]
    exact q
  refine cmp_of (o := PL.oNotInT) hop ha hb.pe hm fun σ H Q hq => ?_
  obtain ⟨B, G, sl, rw, d, r', hT, bo, R, hf, q⟩ := hq
  obtain ⟨x, r1, y, ea, eb, ef⟩ := bin_some hf
  cases y with
  | dkt es =>
    have ef : (if x.keyT = true then some (PL.D.bl !(PL.getD es x).isSome) else none) = some d := by cases x <;> exact ef
    split at ef
    · rename_i hk
      cases ef
      refine ⟨B, G, sl, rw, x, r1, hT, bo, R, ea, fun v H1 G1 R1 S1 D1 => ?_⟩
      refine hb.rd B σ H1 G1 sl r1 r' es _ hT bo R1 eb fun a1 H2 G2 _ R2 S2 again _ => ?_
      obtain ⟨o, xs, g1, g2, g3, g4⟩ := again H2 G2 r' R2 (Same.refl _)
      have D2 := D1.mono S2
      obtain ⟨b1, rfl⟩ := keyT_ref hk D2
      refine ⟨a1, b1, o, xs, key x, rfl, rfl, g1, g2, g3, nks_of R2.sub g4, nk_of R2.sub (keyT_ok hk) D2, ?_⟩
      rw [at_isSome g4 (keyT_ok hk)]
      exact q _ H2 G2 R2 (S1.trans S2) (.bl _)
    · cases ef
  | _ => cases x <;> cases ef
theorem de_get3 {o e f : Expr} {apos cpos : Pos} {fo fk fv : PL.Ex} {to : TE} (hu : X.A.units + 9 < cLine) (ho : DD X T O o fo to) (he : DE X T O e fk) (hf : DE X T O f fv) (m : M2 X o "get" apos e f cpos := by exact ⟨rfl, rfl, rfl, rfl⟩) :
    DE X T O (.Call (.Attribute o "get" apos) [e, f] [] cpos) (PL.eGet3 fo fk fv) := by
  refine ⟨fun pins s σ H Q I hq => ?_⟩
  obtain ⟨B, G, sl, rw, d, r', hT, bo, R, h, q⟩ := hq
  unfold PL.eGet3 at h
  split at h
  · rename_i es r1 ea
    split at h
    · cases h
    · rename_i x r2 eb
      split at h
      · cases h
      · rename_i y r3 ec
        split at h
        · rename_i hk
          cases h
          refine wpAny_Call_method m.base m.few m.line PySem.F.plainAttrs_dict PySem.F.slot_dict_get PySem.F.type_dict_get (thn (ho.pe.run pins s σ H _ I (ho.rd B σ H G sl rw r1 es (fun x H1 => (∃ a o, x = .ref a ∧ H1 a = some (exact a o) ∧ o.ExactDict) ∧ tE X.prog X.w X.K T O fk σ H1 fun y H2 => tE X.prog X.w X.K T O fv σ H2 fun z H3 =>
              ∃ a b o xs k t, x = .ref a ∧ y = .ref b ∧ H3 a = some (exact a o) ∧ (a == sysModules) = false ∧ DObj X.prog X.w o xs ∧ NKs X.prog X.w H3 xs ∧ NK X.prog X.w H3 b k ∧ Q t H3 ∧ (∀ p, atKey xs k = some p → RelV t p.2) ∧ (atKey xs k = none → t = z))
            hT bo R ea fun a1 H1 G1 _ R1 S1 again _ => ?_)) fun u s1 ⟨x1, H1, I1, rx, ⟨a1, o1, ex1, e1, oe⟩, q1⟩ => ?_)
          · obtain ⟨o0, xs0, g01, g02, g03, g04⟩ := again H1 G1 r1 R1 (Same.refl _)
            refine ⟨⟨a1, o0, rfl, g01, g03.1⟩, B, G1, sl, r1, x, r2, hT, bo, R1, eb, fun v2 H2 G2 R2 S2 D2 => ⟨B, G2, sl, r2, y, r', hT, bo, R2, ec, fun v3 H3 G3 R3 S3 D3 => ?_⟩⟩
            obtain ⟨o, xs, g1, g2, g3, g4⟩ := again H3 G3 r' R3 (S2.trans S3)
            have D2' := D2.mono S3
            obtain ⟨b1, rfl⟩ := keyT_ref hk D2'
            obtain ⟨k1, k2⟩ := getD_at g4 (keyT_ok hk)
            cases qq : PL.getD es x with
            | none =>
              rw [qq] at q
              refine ⟨a1, b1, o, xs, key x, v3, rfl, rfl, g1, g2, g3, nks_of R3.sub g4, nk_of R3.sub (keyT_ok hk) D2', q v3 H3 G3 R3 ((S1.trans S2).trans S3) D3, fun p hp => ?_, fun _ => rfl⟩
              rw [k2 qq] at hp
              cases hp
            | some d1 =>
              rw [qq] at q
              obtain ⟨p, v1, g5, g6, g7⟩ := k1 d1 qq
              refine ⟨a1, b1, o, xs, key x, v1, rfl, rfl, g1, g2, g3, nks_of R3.sub g4, nk_of R3.sub (keyT_ok hk) D2', q v1 H3 G3 R3 ((S1.trans S2).trans S3) g7, fun p' hp => ?_, fun hn => ?_⟩
              · rw [g5] at hp
                cases hp
                exact g6
              · rw [g5] at hn
                cases hn
          · subst ex1
            cases rx
            obtain ⟨eh, _⟩ := I1.hok a1 _ e1
            refine ⟨⟨o1, eh, oe.1⟩, fun b eb2 => ?_, ?_⟩
            · cases eb2
              exact ⟨o1, eh, oe.2.1⟩
            · rw [m.trees]
              refine Calls.callWith_builtin rfl (Calls.evalArgs_plain (Calls.spliced_cons (thn (he.run pins s1 σ H1 _ I1 q1) fun iv s2 ⟨y2, H2, I2, ry, q2⟩ => Calls.spliced_cons (thn (hf.run pins s2 σ H2 _ I2 q2) fun fv2 s3 ⟨z, H3, I3, rz, a2, b2, o2, xs, k, t, ex, ey, f1, f2, f3, f4, f5, f6, f7, f8⟩ => Calls.spliced_nil ?_))))
              cases ex
              subst ey
              cases ry
              have Dt := dictOf I3 f1 f3 f4
              refine getOr_keyed (knd := nestedKind X.prog X.w) (kvs := pairsH xs) (by show X.A.units + 1 + 8 < cLine; omega) (f5 _ I3.hok) f2 ⟨xs, Dt, rfl⟩ ⟨t, H3, I3.tok _, ?_, f6⟩
              rw [valueAt_pairsH]
              cases qq : atKey xs k with
              | none => rw [f8 qq]; exact rz
              | some p => exact f7 p qq
        · cases h
  · cases h
/-! ### new dicts -/
theorem newDict {pins : List (Addr × Obj)} {σ : L2.St} {H : Hp} {s : Shared} {h' : Heap} {tk : Nat} {p : Addr} {o : Obj} (I : Inv X pins σ H s) (k : ∀ b u, s.heap.get? b = some u → h'.get? b = some u) (hp : s.heap.objs.size ≤ p) (e : h'.get? p = some o) : Inv X pins σ (upd H p (exact p o)) { s with heap := h', toks := tk } :=
  I.laid (t' := tk) k hp ⟨e, ⟨o, e⟩, fun h1 h2 a b => b o a⟩
theorem big_ne {pins : List (Addr × Obj)} {σ : L2.St} {H : Hp} {s : Shared} {p : Addr} (I : Inv X pins σ H s) (hp : s.heap.objs.size ≤ p) : (p == sysModules) = false := by
  have := I.big
  have hb : sysModules < s.heap.objs.size := this
  exact beq_eq_false_iff_ne.mpr (fun e => by rw [e] at hp; exact absurd hb (Nat.not_lt.mpr hp))
theorem df_dict0 : DF X T O (.Dict [] [] pos) PL.eDict0 := by
  refine ⟨fun pins s σ H Q I hq => ?_⟩
  obtain ⟨B, G, sl, rw, d, r', hT, bo, R, hf, q⟩ := hq
  cases hf
  have hn := I.hok.fresh (Nat.le_refl s.heap.objs.size)
  refine wpAny_Dict_empty ⟨.ref s.heap.objs.size, _, newDict (tk := s.toks) I (fun _ _ e => Heap.get?_push_of_some _ e) (Nat.le_refl _) (Heap.get?_push_size _ rfl), rfl, ?_⟩
  exact q _ _ G (R.track bo hn) (Same.refl _) (fresh_of (o := .dK []) R bo hn) ⟨_, [], upd_same, big_ne I (Nat.le_refl _), ⟨⟨rfl, rfl, rfl⟩, ⟨#[], 0, rfl, rfl⟩, List.nodup_nil, Nat.zero_le _⟩, .nil⟩
/-- an object of ours that nothing tracks is written, and tracked from now on -/
theorem inv_take {pins : List (Addr × Obj)} {σ : L2.St} {H : Hp} {s : Shared} {D : Addr} {o : Obj} {h' : Heap} {tk : Nat} (I : Inv X pins σ H s) (hD : X.s_0.heap.objs.size ≤ D) (n : H D = none) (hL : D ≠ X.env.locals) (hc : ∀ x c, X.env.cells.lookup x = some c → c ≠ D) (hp : ∀ p ∈ X.pn ++ pins, p.1 ≠ D)
    (k : ∀ b u, b ≠ D → s.heap.get? b = some u → h'.get? b = some u) (e : h'.get? D = some o) : Inv X pins σ (upd H D (exact D o)) { s with heap := h', toks := tk } := by
  refine I.step (g' := s.gens) (d' := s.drawn) (ch := [D]) (fun b hb => ?_) (fun b o _ _ hc e _ => k b o (fun z => hc (by simp [z])) e) (fun b o _ _ hc e _ => ⟨o.slots, k b o (fun z => hc (by simp [z])) e⟩) (fun b o hb e n => by rw [upd_ne (fun z => hb (by simp [z]))]; exact n)
    (fun b o hb e => ⟨o, k b o (fun z => hb (by simp [z])) e⟩) (fun b xs e => by rw [upd_ne (ne_of_none e n)]; exact e) (fun b o u e => by rw [upd_ne (ne_of_none e n)]; exact e) (fun b ps e => ⟨#[], by rw [upd_ne (ne_of_none e n), e]; simp⟩) (fun m hm => ?_) (fun b u q => ?_) I.bare
  · have z : b = D := by simpa using hb
    subst z
    exact ⟨.inr hD, hL, hc, hp⟩
  · obtain ⟨o', es, ep, ho, r⟩ := hm
    exact ⟨o', es, ep, k _ o' (Ne.symm hL) ho, r⟩
  · by_cases hb : b = D
    · subst hb
      rw [upd_same] at q
      cases q
      exact ⟨e, ⟨o, e⟩, fun h1 h2 a b' => b' o a⟩
    · rw [upd_ne hb] at q
      refine (I.hok b u q).stay (fun c v hc q => k c v ?_ q) (fun c q => by rw [upd_ne (ne_of_none q n)]; exact q) fun c xs q => by rw [upd_ne (ne_of_none q n)]; exact q
      rcases hc with z | z
      · rw [z]; exact hb
      · exact ne_of_none z n
theorem vv_one {x y : V} : ∀ {ws : List (Value × Value)}, VV [(x, y)] ws → ∃ u v, ws = [(u, v)] ∧ RelV x u ∧ RelV y v
  | [(u, v)], .cons h .nil => ⟨u, v, rfl, h.1, h.2⟩
theorem df_dict1 {kx vx : Expr} {fk fv : PL.Ex} (hu : X.A.units + 9 < cLine) (hk : DE X T O kx fk) (hv : DE X T O vx fv) : DF X T O (.Dict [some kx] [vx] pos) (PL.eDict1 fk fv) := by
  refine ⟨fun pins s σ H Q I hq => ?_⟩
  obtain ⟨B, G, sl, rw, d, r', hT, bo, R, hf, q⟩ := hq
  unfold PL.eDict1 at hf
  split at hf
  · cases hf
  · rename_i x r1 ea
    split at hf
    · cases hf
    · rename_i y r2 eb
      split at hf
      · rename_i hkt
        cases hf
        have hn := I.hok.fresh (Nat.le_refl s.heap.objs.size)
        generalize hD : s.heap.objs.size = D at hn
        have new : (s.heap.push { cls := .type "dict", data := .dict #[] }).get? D = some { cls := .type "dict", data := .dict #[] } := by rw [← hD]; exact Heap.get?_push_size _ rfl
        have I0 := I.kept (t' := s.toks) (h' := s.heap.push { cls := .type "dict", data := .dict #[] }) (fun b o e => Heap.get?_push_of_some _ e)
        have lt := I.lt
        have I1 : Inv X ((D, { cls := .type "dict", data := .dict #[] }) :: pins) σ H { s with heap := s.heap.push { cls := .type "dict", data := .dict #[] } } := I0.pins_of fun p hp => by
          rcases List.mem_cons.mp hp with e | hp
          · subst e
            exact ⟨new, hn, by rw [← hD]; exact Nat.ne_of_gt lt, I.nofs (Nat.le_of_eq hD), fun v z => nomatch z⟩
          · exact I0.pin p (List.mem_append_right _ hp)
        have pp := pps_cons (pos := pos) hk hv (pps_nil (X := X) (pos := pos))
        refine wpAny_Dict_any rfl rfl (by simp) (by simp) (thn (pp.run _ _ σ H (fun ps H2 => ∃ G2 b1 v2, ps = [(.ref b1, v2)] ∧ Rel X.prog X.w B O σ H2 G2 sl r' ∧ Same G G2 ∧ Dv X.prog X.w B.r0 G2 (.ref b1) x ∧ Dv X.prog X.w B.r0 G2 v2 y) I1 ?_) fun ws s2 ⟨ps, H2, I2, rel, G2, b1, v2, eps, R2, S2, D1, D2⟩ => ?_)
        · refine ⟨B, G, sl, rw, x, r1, hT, bo, R, ea, fun v1 H1 G1 R1 S1 D1 => ⟨B, G1, sl, r1, y, r', hT, bo, R1, eb, fun v2 H2 G2 R2 S2 D2 => ?_⟩⟩
          obtain ⟨b1, rfl⟩ := keyT_ref hkt D1
          exact ⟨G2, b1, v2, rfl, R2, S1.trans S2, D1.mono S2, D2⟩
        · subst eps
          obtain ⟨ku, vu, ews, r1', rv⟩ := vv_one rel
          have r1' : ku = Value.ref b1 := r1'
          subst ews r1'
          · skip
            obtain ⟨p1, p2, p3, p4, p5⟩ := I2.pin (D, _) (List.mem_append_right _ List.mem_cons_self)
            have bs : (D == sysModules) = false := big_ne I (Nat.le_of_eq hD)
            have nk := nk_of R2.sub (keyT_ok hkt) D1
            rw [hD]
            refine wpAny_storeAllH (knd := nestedKind X.prog X.w) (by show X.A.units + 8 < cLine; omega) _ [(key x, b1, vu)] [] s2 _ ⟨rfl, rfl, nk _ I2.hok, trivial⟩ ⟨_, #[], 0, p1, ⟨rfl, rfl, rfl⟩, rfl, rfl, fun _ z => by simp at z, List.nodup_nil⟩ (by show 0 + 1 ≤ sizeLine; decide) fun h' tk dd sb => ?_
            obtain ⟨o', es, ep, g1, g2, g3, g4, g5, g6⟩ := dd
            have I3 : Inv X pins σ H2 s2 := I2.pins_of fun p hp => I2.pin p (List.mem_append_right _ (List.mem_cons_of_mem _ hp))
            have notold : ∀ c, c < s.heap.objs.size → c ≠ D := fun c hlt f => by rw [f, ← hD] at hlt; exact Nat.lt_irrefl _ hlt
            have fr := fresh_of (o := .dK []) R2 bo p2
            have lost := inv_take (tk := tk) I3 (by rw [← hD]; exact I.sz) p2 p3 (fun z c e => notold c (by obtain ⟨cv, cc⟩ := I.cell z c e; exact cc.lt)) (fun p hp => notold _ (Heap.lt_size (I.pin p hp).1)) (fun b o hb e => (sb.2 b hb).trans e) g1
            exact ⟨.ref D, _, lost, rfl, q D _ G2 (R2.track bo p2) S2 fr ⟨o', [(key x, b1, vu)], upd_same, bs, ⟨g2, ⟨es, ep, g3, g4⟩, by simp, by simp⟩, .cons D1 (keyT_ok hkt) rv D2 .nil⟩⟩
      · cases hf
end
end DL
end
section
set_option Elab.async false
set_option autoImplicit false
set_option linter.all false
set_option maxRecDepth 100000
set_option maxHeartbeats 1000000
/-! DL3: slices, ranges as lists, gcd, count, index, min of tuples, sums. -/
namespace DL
open L2 PySem PySem.Spec PyProof.Rows
section
variable {X : Cx} {T : List Addr} {O : List Nat} {e a b c : Expr} {pos : Pos} {fa fb fc : PL.Ex}
theorem cut_to (xs : List V) (k : Int) (h : 0 ≤ k) : cutV xs none (some k) = xs.take k.toNat := by
  unfold cutV
  have e1 : HT.sIx xs.length 0 none = 0 := rfl
  have e2 : HT.sIx xs.length xs.length (some k) = min k.toNat xs.length := by
    show (if k < 0 then (k + (xs.length : Int)).toNat else min k.toNat xs.length) = _
    rw [if_neg (Int.not_lt.mpr h)]
  rw [e1, e2, List.drop_zero, Nat.sub_zero, ← List.take_eq_take_min]
theorem cut_last (xs : List V) : cutV xs none (some (-1)) = xs.take (xs.length - 1) := by
  unfold cutV
  have e1 : HT.sIx xs.length 0 none = 0 := rfl
  have e2 : HT.sIx xs.length xs.length (some (-1)) = xs.length - 1 := by
    show (if (-1 : Int) < 0 then (-1 + (xs.length : Int)).toNat else min (-1 : Int).toNat xs.length) = _
    rw [if_pos (by omega)]
    omega
  rw [e1, e2, List.drop_zero, Nat.sub_zero]
theorem cut_from (xs : List V) (k : Int) (h : 0 ≤ k) : cutV xs (some k) none = xs.drop k.toNat := by
  unfold cutV
  have e1 : HT.sIx xs.length xs.length none = xs.length := rfl
  have e2 : HT.sIx xs.length 0 (some k) = min k.toNat xs.length := by
    show (if k < 0 then (k + (xs.length : Int)).toNat else min k.toNat xs.length) = _
    rw [if_neg (Int.not_lt.mpr h)]
  rw [e1, e2]
  by_cases hk : k.toNat ≤ xs.length
  · rw [Nat.min_eq_left hk, List.take_of_length_le (by rw [List.length_drop]; exact Nat.le_refl _)]
  · rw [Nat.min_eq_right (by omega), List.drop_length, List.drop_of_length_le (by omega)]
    simp
theorem de_to {p2 : Pos} (ha : DE X T O a fa) (hb : DE X T O b fb) : DE X T O (.Subscript a (.Slice none (some b) none p2) pos) (PL.eBin PL.oTo fa fb) := by
  refine peI (pe_slice (SlR.or sl_list sl_tupA) ha po_none (po_some hb)) fun σ H Q hq => ?_
  obtain ⟨B, G, s, rw, d, r', hT, bo, R, hf, q⟩ := hq
  obtain ⟨x, r1, y, ea, eb, ef⟩ := bin_some hf
  refine ⟨B, G, s, rw, x, r1, hT, bo, R, ea, fun v H1 G1 R1 S1 D1 => ?_⟩
  refine ⟨B, G1, s, r1, y, r', hT, bo, R1, eb, fun u H2 G2 R2 S2 D2 => ?_⟩
  cases D1 with
  | lst h1 h2 =>
    rename_i p xs ds
    cases D2 <;> first
      | (rename_i k
         have ef : (if 0 ≤ k then some (PL.D.lst (ds.take k.toNat)) else none) = some d := ef
         split at ef
         · rename_i hk
           cases ef
           refine ⟨k, rfl, .inl ⟨p, xs, rfl, SqL.of (R2.sub _ _ (S2 _ _ h1)), fun l hl => ?_⟩⟩
           obtain ⟨R3, S3⟩ := R2.alloc (o := .lst (cutV xs none (some k))) bo hl
           rw [cut_to xs k hk] at R3 S3 ⊢
           exact q _ _ _ R3 ((S1.trans S2).trans S3) (.lst upd_same (((h2.mono S2).mono S3).take _))
         · cases ef)
      | cases ef
  | tup h1 h2 =>
    rename_i p xs ds
    cases D2 <;> first
      | (rename_i k
         have ef : (if 0 ≤ k then some (PL.D.tup (ds.take k.toNat)) else if k = -1 then some (PL.D.tup (ds.take (ds.length - 1))) else none) = some d := ef
         have hl := h2.length
         have key : ∃ n, cutV xs none (some k) = xs.take n ∧ d = .tup (ds.take n) := by
           split at ef
           · rename_i hk
             cases ef
             exact ⟨_, cut_to xs k hk, rfl⟩
           · split at ef
             · rename_i hk
               cases ef
               subst hk
               exact ⟨_, cut_last xs, by rw [hl]⟩
             · cases ef
         obtain ⟨n, e1, rfl⟩ := key
         refine ⟨k, rfl, .inr ⟨p, xs, rfl, SqT.of (R2.sub _ _ (S2 _ _ h1)), fun hw => ?_, fun _ l hl2 => ?_⟩⟩
         · have e2 : cutV xs none (some k) = xs := by
             unfold cutV
             rw [hw.1, hw.2, List.drop_zero, Nat.sub_zero, List.take_length]
           have e3 : ds.take n = ds := by
             have hn : xs.length ≤ n := by
               have e4 := congrArg List.length (e1.symm.trans e2)
               rw [List.length_take] at e4
               omega
             exact List.take_of_length_le (by omega)
           rw [e3] at q
           exact q _ _ _ R2 (S1.trans S2) (.tup (S2 _ _ h1) (h2.mono S2))
         · obtain ⟨R3, S3⟩ := R2.alloc (o := .tup (cutV xs none (some k))) bo hl2
           rw [e1] at R3 S3 ⊢
           exact q _ _ _ R3 ((S1.trans S2).trans S3) (.tup upd_same (((h2.mono S2).mono S3).take _)))
      | cases ef
  | _ => cases y <;> cases ef
theorem de_from {p2 : Pos} (ha : DE X T O a fa) (hb : DE X T O b fb) : DE X T O (.Subscript a (.Slice (some b) none none p2) pos) (PL.eBin PL.oFrom fa fb) := by
  refine peI (pe_slice sl_list ha (po_some hb) po_none) fun σ H Q hq => ?_
  obtain ⟨B, G, s, rw, d, r', hT, bo, R, hf, q⟩ := hq
  obtain ⟨x, r1, y, ea, eb, ef⟩ := bin_some hf
  refine ⟨B, G, s, rw, x, r1, hT, bo, R, ea, fun v H1 G1 R1 S1 D1 => ?_⟩
  refine ⟨B, G1, s, r1, y, r', hT, bo, R1, eb, fun u H2 G2 R2 S2 D2 => ?_⟩
  cases D1 with
  | lst h1 h2 =>
    rename_i p xs ds
    cases D2 <;> first
      | (rename_i k
         have ef : (if 0 ≤ k then some (PL.D.lst (ds.drop k.toNat)) else none) = some d := ef
         split at ef
         · rename_i hk
           cases ef
           refine ⟨k, rfl, p, xs, rfl, SqL.of (R2.sub _ _ (S2 _ _ h1)), fun l hl => ?_⟩
           obtain ⟨R3, S3⟩ := R2.alloc (o := .lst (cutV xs (some k) none)) bo hl
           rw [cut_from xs k hk] at R3 S3 ⊢
           exact q _ _ _ R3 ((S1.trans S2).trans S3) (.lst upd_same (((h2.mono S2).mono S3).drop _))
         · cases ef)
      | cases ef
  | _ => cases y <;> cases ef

/-! ### list(range(n)), tuple(range(n)) -/
theorem dva_rng (P : Program) (w : World) (r0 : Addr) (G : Hp) (i j : Int) : DvA P w r0 G (rgV i j) (PL.rng i j) := by
  unfold rgV PL.rng
  generalize List.range (j - i).toNat = l
  induction l with
  | nil => exact .nil
  | cons n l ih => exact .cons (.int _) ih
theorem df_listRg {p pr cp : Pos} (hc : X.calm = true) (hg : Gl X "list") (hm : X.mg "list" = none) (hg2 : Gl X "range") (hm2 : X.mg "range" = none) (ha : DE X T O a fa) (na : starEach [a] X.env = (false, eval a X.env) :: starEach [] X.env := by rfl)
    (na2 : starEach [.Call (.Name "range" pr) [a] [] cp] X.env = (false, eval (.Call (.Name "range" pr) [a] [] cp) X.env) :: starEach [] X.env := by rfl) : DF X T O (.Call (.Name "list" p) [.Call (.Name "range" pr) [a] [] cp] [] pos) (PL.eUn PL.oListRg fa) := by
  refine peI (pe_listRg hc hg hm (prg_1 hg2 hm2 ha na) na2) fun σ H Q hq => ?_
  obtain ⟨B, G, s, rw, d, r', hT, bo, R, hf, q⟩ := hq
  obtain ⟨x, ea, ef⟩ := un_some hf
  refine ⟨B, G, s, rw, x, r', hT, bo, R, ea, fun v H1 G1 R1 S1 D1 => ?_⟩
  cases D1 <;> first
    | (rename_i n
       have ef : (if 0 ≤ n ∧ n ≤ 1000 then some (PL.D.lst (PL.rng 0 n)) else none) = some d := ef
       split at ef
       · rename_i hn
         cases ef
         refine ⟨n, rfl, RgOk.of_le (by omega) (by omega) (by omega) (by omega), fun l hl => ?_⟩
         exact q l _ G1 (R1.track (o := .lst (rgV 0 n)) bo hl) S1 (fresh_of (o := .lst (rgV 0 n)) R1 bo hl) ⟨_, upd_same, dva_rng _ _ _ _ 0 n⟩
       · cases ef)
    | cases ef
theorem de_tupRg {p pr cp : Pos} (hc : X.calm = true) (hg : Gl X "tuple") (hm : X.mg "tuple" = none) (hg2 : Gl X "range") (hm2 : X.mg "range" = none) (ha : DE X T O a fa) (na : starEach [a] X.env = (false, eval a X.env) :: starEach [] X.env := by rfl)
    (na2 : starEach [.Call (.Name "range" pr) [a] [] cp] X.env = (false, eval (.Call (.Name "range" pr) [a] [] cp) X.env) :: starEach [] X.env := by rfl) : DE X T O (.Call (.Name "tuple" p) [.Call (.Name "range" pr) [a] [] cp] [] pos) (PL.eUn PL.oTupRg fa) := by
  refine peI (pe_tupRg hc hg hm (prg_1 hg2 hm2 ha na) na2) fun σ H Q hq => ?_
  obtain ⟨B, G, s, rw, d, r', hT, bo, R, hf, q⟩ := hq
  obtain ⟨x, ea, ef⟩ := un_some hf
  refine ⟨B, G, s, rw, x, r', hT, bo, R, ea, fun v H1 G1 R1 S1 D1 => ?_⟩
  cases D1 <;> first
    | (rename_i n
       have ef : (if 0 ≤ n ∧ n ≤ 1000 then some (PL.D.tup (PL.rng 0 n)) else none) = some d := ef
       split at ef
       · rename_i hn
         cases ef
         refine ⟨n, rfl, RgOk.of_le (by omega) (by omega) (by omega) (by omega), fun l hl => ?_⟩
         obtain ⟨R3, S3⟩ := R1.alloc (o := .tup (rgV 0 n)) bo hl
         exact q _ _ _ R3 (S1.trans S3) (.tup upd_same (dva_rng _ _ _ _ 0 n))
       · cases ef)
    | cases ef

/-! ### gcd -/
theorem de_gcd {p : Pos} (hg : Gl X "gcd") (hm : X.mg "gcd" = some (.builtin "math.gcd")) (ha : DE X T O a fa) (hb : DE X T O b fb) (na : starEach [a, b] X.env = (false, eval a X.env) :: starEach [b] X.env := by rfl) (nb : starEach [b] X.env = (false, eval b X.env) :: starEach [] X.env := by rfl)
    (hpl : (backTo pos (starEach [b] X.env)).any (·.1) = false := by rfl) :
    DE X T O (.Call (.Name "gcd" p) [a, b] [] pos) (PL.eBin PL.oGcd fa fb) := by
  refine peI (pe_callBfun cr_gcd hg hm (pa_cons ha (pa_cons hb pa_nil nb) na) (he := na) (hpl := hpl)) fun σ H Q hq => ?_
  obtain ⟨B, G, s, rw, d, r', hT, bo, R, hf, q⟩ := hq
  obtain ⟨x, r1, y, ea, eb, ef⟩ := bin_some hf
  refine ⟨B, G, s, rw, x, r1, hT, bo, R, ea, fun v H1 G1 R1 S1 D1 => ?_⟩
  refine ⟨B, G1, s, r1, y, r', hT, bo, R1, eb, fun u H2 G2 R2 S2 D2 => ?_⟩
  cases D1 <;> cases D2 <;> first | (cases ef; exact ⟨_, _, rfl, q _ H2 G2 R2 (S1.trans S2) (.int _)⟩) | cases ef

/-! ### list.count, list.index -/
def rCnt (K : PySem.W.Frag) : V → List V → Hp → VK → Prop := fun x xs H Q => ∃ (a : Addr) (y : V) (d : PyData) (ds : List PyData), x = V.ref a ∧ xs = [y] ∧ Dp K H (V.ref a) (.list ds) ∧ Dp K H y d ∧ SeqAt.shaped (.list ds) = true ∧ SeqAt.shaped d = true ∧
  Q (.int ((ds.countP fun z => PyData.eqv z d : Nat) : Int)) H
theorem mt_countD (hu : X.A.units + 65 < cLine) : MtR X "list.count" (rCnt X.K) := by
  intro pins s σ H x xs v us Q I rx rxs h
  obtain ⟨a, y, d, ds, rfl, rfl, hl, hy, sl, sd, q⟩ := h
  cases rx
  cases rxs with
  | cons ry rt =>
    cases rt
    obtain ⟨bs, r1⟩ := Dp.reads I d y _ hy ry
    have hxs : PyData.canLayAll0 ds = true := SeqAt.canLay_of_shaped sl
    have hroom : X.A.units + 1 + min (PyData.depthAll ds) d.depth < cLine := room_in_shaped sd hu
    cases hl with
    | lst hs ha =>
      obtain ⟨its, rv, pl, hlen⟩ := I.list hs
      obtain ⟨as, h4⟩ := Dp.readsAll I ds _ its ha rv
      exact SeqAt.count_list_data pl.isList (show ReadsAll s.heap its.toArray.toList ds as from h4) r1 (PySem.PyData.plainAll_of_canLay0 ds hxs) (PySem.PyData.plain_of_canLay0 d (SeqAt.canLay_of_shaped sd)) hroom ⟨.int _, H, I.tok _, ⟨_, rfl⟩, q⟩
theorem count_toP {n : Nat} {dx : PL.D} (hx : dx.ok n = true) : ∀ {ds : List PL.D}, ds.all (PL.D.ok n) = true → ((toPs ds).countP fun z => PyData.eqv z (toP dx)) = ds.countP fun y => y.beq dx
  | [], _ => rfl
  | d :: ds, h => by
    have h : d.ok n = true ∧ ds.all (PL.D.ok n) = true := by simpa using h
    rw [toPs, List.countP_cons, List.countP_cons, count_toP hx h.2, toP_eqv n d dx h.1 hx]
theorem de_count {o : Expr} {apos : Pos} (hu : X.A.units + 65 < cLine) (ho : DE X T O o fa) (he : DE X T O e fb) (hbase : attributeBase o "count" X.env (eval o X.env) = eval o X.env := by rfl)
    (hfew : ((backTo pos (starEach [e] X.env)).all (fun x => !x.1) && (backToKw pos (keywordEach [] X.env)).all (fun x => x.1.isSome)
      && decide (([e] : List Expr).length + ([] : List Keyword).length + (if ([] : List Keyword).isEmpty then 0 else 1) < 30)) = true := by rfl)
    (hline : (apos.endLine == pos.line) = true := by rfl) (hs : starEach [e] X.env = (false, eval e X.env) :: starEach [] X.env := by rfl) (hpl : (backTo pos (starEach [] X.env)).any (·.1) = false := by rfl) :
    DE X T O (.Call (.Attribute o "count" apos) [e] [] pos) (PL.eBin PL.oCount fa fb) := by
  refine peI (pe_bm F.plainAttrs_list F.slot_list_count F.type_list_count (mt_countD hu) ho (pa_cons he pa_nil hs) hbase hfew hline hs hpl) fun σ H Q hq => ?_
  obtain ⟨B, G, s, rw, d, r', hT, bo, R, hf, q⟩ := hq
  obtain ⟨x, r1, y, ea, eb, ef⟩ := bin_some hf
  refine ⟨B, G, s, rw, x, r1, hT, bo, R, ea, fun v H1 G1 R1 S1 D1 => ?_⟩
  cases D1 with
  | lst h1 h2 =>
    rename_i p xs ds
    have ef : (if (y.ok 7 && ds.all (PL.D.ok 7)) = true then some (PL.D.int ((ds.countP fun z => z.beq y : Nat) : Int)) else none) = some d := by cases y <;> exact ef
    split at ef
    · rename_i hc
      cases ef
      obtain ⟨c1, c2⟩ := Bool.and_eq_true_iff.mp hc
      refine ⟨.inl ⟨rfl, xs, SqL.of (R1.sub _ _ h1)⟩, B, G1, s, r1, y, r', hT, bo, R1, eb, fun u H2 G2 R2 S2 D2 => ?_⟩
      have ok8 : (PL.D.lst ds).ok 8 = true := c2
      refine ⟨p, u, toP y, toPs ds, rfl, rfl, .lst (SqL.of (R2.sub _ _ (S2 _ _ h1))) (dv_dps R2.sub 7 ds xs c2 (h2.mono S2)), dv_dp R2.sub 7 y u c1 D2, toP_shaped ok8 (by decide), toP_shaped c1 (by decide), ?_⟩
      rw [count_toP c1 c2]
      exact q _ H2 G2 R2 (S1.trans S2) (.int _)
    · cases ef
  | _ => cases y <;> cases ef
theorem find_toP {n : Nat} {dx : PL.D} (hx : dx.ok n = true) : ∀ {ds : List PL.D} {j : Nat}, ds.all (PL.D.ok n) = true → ds.findIdx? (fun y => y.beq dx) = some j →
    ∃ z, (toPs ds)[j]? = some z ∧ PyData.eqv z (toP dx) = true ∧ ∀ (m : Nat) (z' : PyData), m < j → (toPs ds)[m]? = some z' → PyData.eqv z' (toP dx) = false
  | [], j, _, h => by simp at h
  | d :: ds, j, hk, h => by
    have hk : d.ok n = true ∧ ds.all (PL.D.ok n) = true := by simpa using hk
    rw [List.findIdx?_cons] at h
    cases q : d.beq dx with
    | true =>
      rw [q] at h
      simp at h
      subst h
      exact ⟨toP d, rfl, by rw [toP_eqv n d dx hk.1 hx, q], fun m z' hm _ => by omega⟩
    | false =>
      rw [q] at h
      simp at h
      obtain ⟨i, hi, rfl⟩ := h
      obtain ⟨z, h1, h2, h3⟩ := find_toP hx hk.2 hi
      refine ⟨z, by simpa [toPs] using h1, h2, fun m z' hm hz => ?_⟩
      cases m with
      | zero =>
        have e : toP d = z' := by simpa [toPs] using hz
        rw [← e, toP_eqv n d dx hk.1 hx, q]
      | succ m => exact h3 m z' (by omega) (by simpa [toPs] using hz)
theorem de_index {o : Expr} {apos : Pos} (hu : X.A.units + 65 < cLine) (ho : DE X T O o fa) (he : DE X T O e fb) (hbase : attributeBase o "index" X.env (eval o X.env) = eval o X.env := by rfl)
    (hfew : ((backTo pos (starEach [e] X.env)).all (fun x => !x.1) && (backToKw pos (keywordEach [] X.env)).all (fun x => x.1.isSome)
      && decide (([e] : List Expr).length + ([] : List Keyword).length + (if ([] : List Keyword).isEmpty then 0 else 1) < 30)) = true := by rfl)
    (hline : (apos.endLine == pos.line) = true := by rfl) (hs : starEach [e] X.env = (false, eval e X.env) :: starEach [] X.env := by rfl) (hpl : (backTo pos (starEach [] X.env)).any (·.1) = false := by rfl) :
    DE X T O (.Call (.Attribute o "index" apos) [e] [] pos) (PL.eBin PL.oIndex fa fb) := by
  refine peI (pe_bm F.plainAttrs_list F.slot_list_index F.type_list_index (mt_indexD hu) ho (pa_cons he pa_nil hs) hbase hfew hline hs hpl) fun σ H Q hq => ?_
  obtain ⟨B, G, s, rw, d, r', hT, bo, R, hf, q⟩ := hq
  obtain ⟨x, r1, y, ea, eb, ef⟩ := bin_some hf
  refine ⟨B, G, s, rw, x, r1, hT, bo, R, ea, fun v H1 G1 R1 S1 D1 => ?_⟩
  cases D1 with
  | lst h1 h2 =>
    rename_i p xs ds
    have ef : (if (y.ok 7 && ds.all (PL.D.ok 7)) = true then (match ds.findIdx? fun z => z.beq y with | some j => some (PL.D.int (j : Nat)) | none => none) else none) = some d := by cases y <;> exact ef
    split at ef
    · rename_i hc
      obtain ⟨c1, c2⟩ := Bool.and_eq_true_iff.mp hc
      split at ef
      · rename_i j hj
        cases ef
        refine ⟨.inl ⟨rfl, xs, SqL.of (R1.sub _ _ h1)⟩, B, G1, s, r1, y, r', hT, bo, R1, eb, fun u H2 G2 R2 S2 D2 => ?_⟩
        have ok8 : (PL.D.lst ds).ok 8 = true := c2
        obtain ⟨z, z1, z2, z3⟩ := find_toP c1 c2 hj
        exact ⟨p, u, toP y, toPs ds, j, z, rfl, rfl, .lst (SqL.of (R2.sub _ _ (S2 _ _ h1))) (dv_dps R2.sub 7 ds xs c2 (h2.mono S2)), dv_dp R2.sub 7 y u c1 D2, toP_shaped ok8 (by decide), toP_shaped c1 (by decide), z1, z2, z3, q _ H2 G2 R2 (S1.trans S2) (.int _)⟩
      · cases ef
    · cases ef
  | _ => cases y <;> cases ef

/-! ### min of tuples of ints -/
theorem ltI_eq : ∀ a b : List Int, PySem.W.listLt a b = PL.ltI a b
  | [], [] => rfl
  | [], _ :: _ => rfl
  | _ :: _, [] => rfl
  | x :: xs, y :: ys => by
    unfold PySem.W.listLt PL.ltI
    by_cases h : x = y
    · subst h
      rw [if_pos rfl, if_neg (by omega), if_pos rfl, ltI_eq xs ys]
    · rw [if_neg h, if_neg h]
      show decide (x < y) = _
      by_cases h2 : x < y
      · rw [if_pos h2]; exact decide_eq_true h2
      · rw [if_neg h2]; exact decide_eq_false h2
theorem minT_eq : ∀ (xs : List (List Int)) (m : List Int), PySem.W.minOf (PySem.W.Tup.mk m) (xs.map PySem.W.Tup.mk) = ⟨PL.minT m xs⟩
  | [], m => rfl
  | x :: xs, m => by
    unfold PL.minT PySem.W.minOf
    rw [List.map_cons, List.foldl_cons]
    have e : (if PySem.W.DatumOrd.lt (PySem.W.Tup.mk x) (PySem.W.Tup.mk m) = true then PySem.W.Tup.mk x else PySem.W.Tup.mk m) = PySem.W.Tup.mk (if PL.ltI x m = true then x else m) := by
      have e2 : PySem.W.DatumOrd.lt (PySem.W.Tup.mk x) (PySem.W.Tup.mk m) = PL.ltI x m := ltI_eq x m
      rw [e2]
      cases PL.ltI x m <;> rfl
    rw [e]
    exact minT_eq xs _
theorem readsAll_get {h : Heap} : ∀ {us : List Value} {ds : List PyData} {as : List Addr} {i : Nat} {u : Value}, ReadsAll h us ds as → us[i]? = some u → ∃ d bs, ds[i]? = some d ∧ Reads h u d bs
  | _, _, _, i, u, .nil, e => by simp at e
  | _, _, _, 0, u, .cons h _, e => by simp at e; subst e; exact ⟨_, _, rfl, h⟩
  | _, _, _, i + 1, u, .cons _ t, e => by
    obtain ⟨d, bs, h1, h2⟩ := readsAll_get (i := i) t (by simpa using e)
    exact ⟨d, bs, by simpa using h1, h2⟩
def rMinT (K : PySem.W.Frag) : List V → Hp → VK → Prop := fun vs H Q => ∃ (a : Addr) (xs : List V) (m : List Int) (iss : List (List Int)), vs = [V.ref a] ∧ SqL K H a xs ∧ DpAll K H xs ((m :: iss).map fun is => .tuple (is.map .int)) ∧
  ∀ (i : Nat) (x : V), xs[i]? = some x → (m :: iss)[i]? = some (PL.minT m iss) → Q x H
theorem cr_minT (hc : X.calm = true) (hu : X.A.units + 65 < cLine) : CallR X (.builtin "min") (rMinT X.K) := by
  intro pins s σ H vs us Q I r h
  obtain ⟨a, xs, m, iss, rfl, hs, hd, q⟩ := h
  cases r with
  | cons r rt =>
    cases rt
    cases r
    obtain ⟨its, rv, pl, hlen⟩ := I.list hs
    obtain ⟨as, h4⟩ := Dp.readsAll I _ _ its hd rv
    have hm : ((m :: iss).map fun is => PyData.tuple (is.map .int)) = ((PySem.W.Tup.mk m) :: iss.map PySem.W.Tup.mk).map PySem.W.Datum.toD := by
      rw [List.map_cons, List.map_cons, List.map_map]
      rfl
    rw [hm] at h4
    refine PySem.W.min_list_datum (x := PySem.W.Tup.mk m) (xs := iss.map PySem.W.Tup.mk) (I.ok.hd hc) pl.isList ⟨as, by simpa using h4⟩ (by show X.A.units + 1 + (0 + 1) < cLine; omega) fun i v h' tk hi hv hk => ?_
    have hi' : its[i]? = some v := by simpa using hi
    obtain ⟨d, bs, e1, e2⟩ := readsAll_get h4 hi'
    obtain ⟨hlt, _⟩ := List.getElem?_eq_some_iff.mp hi'
    have hxl := rv.length
    have hx : xs[i]? = some xs[i] := List.getElem?_eq_getElem (by omega)
    obtain ⟨u, hu1, ru⟩ := rv.get hx
    rw [hi'] at hu1
    cases hu1
    obtain ⟨cs, e3⟩ := hv
    have e4 := PySem.W.reads_keeps hk e2
    have e5 := (PySem.Reads.unique e4 _ _ e3).1
    rw [minT_eq] at e5
    rw [← hm, List.getElem?_map] at e1
    cases q2 : (m :: iss)[i]? with
    | none => rw [q2] at e1; cases e1
    | some js =>
      rw [q2] at e1
      have e6 : PyData.tuple (js.map .int) = d := Option.some.inj e1
      rw [← e6] at e5
      have e7 : PyData.tuple (js.map .int) = PyData.tuple ((PL.minT m iss).map .int) := e5
      have e8 : js.map PyData.int = (PL.minT m iss).map PyData.int := by injection e7
      have e9 : js = PL.minT m iss := (List.map_inj_right fun a b h => by injection h).mp e8
      exact ⟨xs[i], H, I.kept hk, ru, q i _ hx (by rw [q2, e9])⟩
theorem asInts_map : ∀ {ds : List PL.D} {is : List Int}, PL.asInts ds = some is → ds = is.map PL.D.int
  | [], is, h => by simp [PL.asInts] at h; subst h; rfl
  | d :: ds, is, h => by
    cases d with
    | int i =>
      simp only [PL.asInts] at h
      cases q : PL.asInts ds with
      | none => rw [q] at h; cases h
      | some js =>
        rw [q] at h
        have h := Option.some.inj h
        subst h
        rw [asInts_map q]
        rfl
    | _ => simp [PL.asInts] at h
theorem asIntss_map : ∀ {ds : List PL.D} {iss : List (List Int)}, PL.asIntss ds = some iss → ds = iss.map fun is => PL.D.tup (is.map .int)
  | [], is, h => by simp [PL.asIntss] at h; subst h; rfl
  | d :: ds, iss, h => by
    cases d with
    | tup es =>
      simp only [PL.asIntss] at h
      cases q : PL.asInts es with
      | none => rw [q] at h; simp at h
      | some js =>
        cases q2 : PL.asIntss ds with
        | none => rw [q, q2] at h; simp at h
        | some jss =>
          rw [q, q2] at h
          have h := Option.some.inj h
          subst h
          rw [asIntss_map q2, asInts_map q]
          rfl
    | _ => simp [PL.asIntss] at h
theorem ok_ints : ∀ is : List Int, (is.map PL.D.int).all (PL.D.ok 1) = true
  | [] => rfl
  | i :: is => by rw [List.map_cons, List.all_cons, ok_ints is]; rfl
theorem ok_intss : ∀ iss : List (List Int), (iss.map fun is => PL.D.tup (is.map .int)).all (PL.D.ok 2) = true
  | [] => rfl
  | i :: is => by rw [List.map_cons, List.all_cons, ok_intss is]; exact Bool.and_eq_true_iff.mpr ⟨ok_ints i, rfl⟩
theorem toPs_ints : ∀ is : List Int, toPs (is.map PL.D.int) = is.map PyData.int
  | [] => rfl
  | i :: is => by rw [List.map_cons, List.map_cons, toPs, toPs_ints is]; rfl
theorem toPs_intss : ∀ iss : List (List Int), toPs (iss.map fun is => PL.D.tup (is.map .int)) = iss.map fun is => PyData.tuple (is.map .int)
  | [] => rfl
  | i :: is => by rw [List.map_cons, List.map_cons, toPs, toPs_intss is, toP, toPs_ints]
theorem de_minT {p : Pos} (hc : X.calm = true) (hu : X.A.units + 65 < cLine) (hg : Gl X "min") (hm : X.mg "min" = none) (ha : DE X T O a fa) (hs : starEach [a] X.env = (false, eval a X.env) :: starEach [] X.env := by rfl) : DE X T O (.Call (.Name "min" p) [a] [] pos) (PL.eUn PL.oMinT fa) := by
  refine b1_pe (cr_minT hc hu) ?_ hg hm boot_min ha (hs := hs)
  intro B O σ H G s rw x dx d Q hT bo R hx ho q
  cases hx with
  | lst h1 h2 =>
    rename_i p xs ds
    have ho : (match PL.asIntss ds with | some (x :: xs) => some (PL.D.tup ((PL.minT x xs).map .int)) | _ => none) = some d := ho
    split at ho
    · rename_i m iss e1
      cases ho
      have e2 := asIntss_map e1
      have dp := dv_dps (K := X.K) R.sub 2 ds xs (by rw [e2]; exact ok_intss _) h2
      rw [e2, toPs_intss] at dp
      refine ⟨p, xs, m, iss, rfl, SqL.of (R.sub _ _ h1), dp, fun i x hi hj => ?_⟩
      obtain ⟨d2, hd2, dv⟩ := h2.getV hi
      rw [e2, List.getElem?_map, hj] at hd2
      cases hd2
      exact q x H G R (Same.refl _) dv
    · cases ho
  | _ => cases ho

/-! ### sum of a list, of a tuple -/
theorem pre_sum (f : Nat → Int) (ns : List Int) (h : ∀ i x, ns[i]? = some x → f i = x) : ∀ k, k ≤ ns.length → preSum f k = (ns.take k).sum
  | 0, _ => rfl
  | k + 1, hk => by
    have e : ns[k]? = some ns[k] := List.getElem?_eq_getElem (by omega)
    show preSum f k + f k = _
    rw [pre_sum f ns h k (by omega), h k _ e, List.take_succ_eq_append_getElem (by omega), List.sum_append]
    simp
theorem cr_sumLT (hc : X.calm = true) : CallR X (.builtin "sum") (fun xs H Q => ∃ (a : Addr) (ns : List Int), xs = [V.ref a] ∧ (SqL X.K H a (ns.map V.int) ∨ SqT X.K H a (ns.map V.int)) ∧ Q (.int ns.sum) H) := by
  intro pins s σ H vs us Q I r h
  obtain ⟨a, ns, rfl, hs, q⟩ := h
  rcases hs with hs | hs
  · exact cr_sum hc pins s σ H _ us Q I r ⟨a, ns, rfl, hs, q⟩
  · obtain ⟨its, rv, ht, _⟩ := I.tuple hs
    have ht : s.heap.IsTuple a its.toArray := ht
    rw [Vals.ref1 r]
    refine call_sum_walkAnyS (PySem.W.iter_tupleW (A := X.A.in1) (I.ok.hd hc) ht fun s₂ e W st hfp hw hk => ?_)
    have hget : ∀ (i : Nat) (v : Value), its.toArray[i]? = some v → ∃ n t, ns[i]? = some n ∧ v = .int n t := fun i v hv => by
      have hv' : its[i]? = some v := by simpa using hv
      obtain ⟨h1, _⟩ := List.getElem?_eq_some_iff.mp hv'
      have hl := rv.length
      rw [List.length_map] at hl
      have e2 : (ns.map V.int)[i]? = some (.int ns[i]) := by rw [List.getElem?_map, List.getElem?_eq_getElem (by omega)]; rfl
      obtain ⟨u, hu, ru⟩ := rv.get e2
      rw [hv'] at hu
      cases hu
      obtain ⟨t, rfl⟩ := ru
      exact ⟨_, t, List.getElem?_eq_getElem (by omega), rfl⟩
    refine ⟨_, _, _, _, _, _, _, fun i => ns.getD i 0, rfl, W, st, hfp, fun i v hv => ?_, fun s' t' m => ?_⟩
    · obtain ⟨n, t, h1, h2⟩ := hget i v hv
      exact ⟨t, by rw [h2]; show Value.int n t = Value.int (ns.getD i 0) t; rw [List.getD_eq_getElem?_getD, h1]; rfl⟩
    · obtain ⟨h', tk, rfl, hk'⟩ := PySem.W.moved_old e rfl m
      have hl := rv.length
      rw [List.length_map] at hl
      rw [pre_sum _ ns (fun i x hx => by show ns.getD i 0 = x; rw [List.getD_eq_getElem?_getD, hx]; rfl) _ (by rw [List.size_toArray]; omega), List.take_of_length_le (by rw [List.size_toArray]; omega)]
      exact ⟨.int _, H, I.kept hk', ⟨_, rfl⟩, q⟩
end
end DL
end
section
set_option Elab.async false
set_option autoImplicit false
set_option linter.all false
set_option maxRecDepth 100000
set_option maxHeartbeats 1000000
/-! DL4: targets, walkers, statements. -/
namespace DL
open PySem PySem.Spec PyProof.Rows L2

section
variable {P : Program} {w : World} {K : PySem.W.Frag} {B : Bs} {O : List Nat} {σ σ' : St} {H H' G G' : Hp} {s s' : PL.Sl} {r r' : PL.Row}
theorem fresh_ne (bo : BOk K B) {p : Addr} (h : B.H0 p = none) : p ≠ B.r0 ∧ p ∉ B.tabs := ⟨fun e => bo.r0 (e ▸ h), fun e => bo.tabs p e h⟩
/-- a fresh object is changed -/
theorem Rel.poke {p : Addr} {o : HO} (R : Rel P w B O σ H G s r) (bo : BOk K B) (hf : Fresh B O σ s G p) : Rel P w B O σ (upd H p o) G s r := by
  obtain ⟨f1, f2, f3, f4⟩ := hf
  obtain ⟨n1, n2⟩ := fresh_ne bo f2
  exact ⟨R.len, fun b u h => by rw [upd_ne (fun e => by subst e; rw [f1] at h; cases h)]; exact R.sub b u h, R.g0,
    fun b u h h1 h2 => by rw [upd_ne (fun e => by subst e; rw [f2] at h; cases h)]; exact R.k0 b u h h1 h2, R.n0,
    ⟨R.row.1, by rw [upd_ne (fun e => n1 e.symm)]; exact R.row.2⟩,
    fun q hq => by obtain ⟨ps, e, t⟩ := R.tab q hq; exact ⟨ps, by rw [upd_ne (fun z => n2 (by rw [← z]; exact hq))]; exact e, t⟩,
    fun b u h => ⟨by rw [upd_ne (fun e => by subst e; rw [f3] at h; cases h)]; exact (R.tmp b u h).1, (R.tmp b u h).2⟩, R.pub,
    fun i hi d hd => by
      obtain ⟨a, h1, h2, h3, h4, h5⟩ := R.own i hi d hd
      exact ⟨a, h1, h2, h3, h4, h5.mono (by rw [upd_ne (fun e => by subst e; exact f4 i hi d hd h1)]) (Same.refl _)⟩, R.inj⟩
/-- a protected object -/
def Bs.put (B : Bs) (p : Addr) (o : HO) : Bs := { B with tmp := upd B.tmp p o }
theorem BOk.put {p : Addr} {o : HO} (bo : BOk K B) (h : B.H0 p = none) : BOk K (B.put p o) :=
  ⟨bo.r0, bo.r0', bo.r0t, bo.tabs, bo.tabs', fun b u hb => by
    by_cases e : b = p
    · subst e; exact fresh_ne bo h
    · have hb : upd B.tmp p o b = some u := hb
      rw [upd_ne e] at hb; exact bo.tmp b u hb, bo.scr⟩
theorem Rel.put {p : Addr} {o : HO} (R : Rel P w B O σ H G s r) (hf : Fresh B O σ s G p) (hp : H p = some o) : Rel P w (B.put p o) O σ H G s r :=
  ⟨R.len, R.sub, R.g0, R.k0, R.n0, R.row, R.tab, fun b u hb => by
    by_cases e : b = p
    · subst e
      have hb : upd B.tmp b o b = some u := hb
      rw [upd_same] at hb
      cases hb
      exact ⟨hp, hf.1⟩
    · have hb : upd B.tmp p o b = some u := hb
      rw [upd_ne e] at hb; exact R.tmp b u hb, R.pub, fun i hi d hd => by
      obtain ⟨a, h1, h2, h3, h4, h5⟩ := R.own i hi d hd
      exact ⟨a, h1, h2, h3, by show upd B.tmp p o a = none; rw [upd_ne (fun e => by subst e; exact hf.2.2.2 i hi d hd h1)]; exact h4, h5⟩, R.inj⟩
theorem Rel.unput {p : Addr} {o : HO} (R : Rel P w (B.put p o) O σ H G s r) (h0 : B.H0 p = none) (ht : B.tmp p = none) : Rel P w B O σ H G s r ∧ Fresh B O σ s G p ∧ H p = some o := by
  have ep : (B.put p o).tmp p = some o := upd_same
  obtain ⟨hp, gp⟩ := R.tmp p o ep
  have tm : ∀ b, B.tmp b ≠ none → b ≠ p := fun b hb e => hb (by rw [e]; exact ht)
  refine ⟨⟨R.len, R.sub, R.g0, R.k0, R.n0, R.row, R.tab, fun b u hb => R.tmp b u (by show upd B.tmp p o b = _; rw [upd_ne (tm b (by rw [hb]; simp))]; exact hb), R.pub, fun i hi d hd => ?_, R.inj⟩, ⟨gp, h0, ht, fun j hj e he z => ?_⟩, hp⟩
  · obtain ⟨a, h1, h2, h3, h4, h5⟩ := R.own i hi d hd
    have h4 : upd B.tmp p o a = none := h4
    have e : a ≠ p := fun e => by subst e; rw [upd_same] at h4; cases h4
    rw [upd_ne e] at h4
    exact ⟨a, h1, h2, h3, h4, h5⟩
  · obtain ⟨a, h1, h2, h3, h4, h5⟩ := R.own j hj e he
    rw [z] at h1
    cases h1
    have h4 : upd B.tmp p o p = none := h4
    rw [upd_same] at h4; cases h4
/-- other slots -/
theorem Rel.slots (R : Rel P w B O σ' H G s' r) (hl : s.length = σ.length) (hp : ∀ i d, i ∉ O → s[i]? = some (some d) → ∃ v, σ[i]? = some (some v) ∧ Dv P w B.r0 G v d)
    (ho : ∀ i, i ∈ O → s[i]? = s'[i]? ∧ σ[i]? = σ'[i]?) : Rel P w B O σ H G s r :=
  ⟨hl, R.sub, R.g0, R.k0, R.n0, R.row, R.tab, R.tmp, hp, fun i hi d hd => by rw [(ho i hi).2]; exact R.own i hi d (by rw [← (ho i hi).1]; exact hd),
    fun i j d e a hi hj h1 h2 h3 h4 => R.inj i j d e a hi hj (by rw [← (ho i hi).1]; exact h1) (by rw [← (ho j hj).1]; exact h2) (by rw [← (ho i hi).2]; exact h3) (by rw [← (ho j hj).2]; exact h4)⟩
theorem plwipe_length (s : PL.Sl) : ∀ vs : List Nat, (PL.wipe s vs).length = s.length
  | [] => rfl
  | v :: vs => by unfold PL.wipe; rw [List.length_set, plwipe_length s vs]
theorem plwipe_keep (s : PL.Sl) {i : Nat} : ∀ {vs : List Nat}, i ∉ vs → (PL.wipe s vs)[i]? = s[i]?
  | [], _ => rfl
  | v :: vs, h => by
    have h1 : v ≠ i := fun e => h (e ▸ List.mem_cons_self)
    unfold PL.wipe
    rw [List.getElem?_set_ne h1, plwipe_keep s (fun z => h (List.mem_cons_of_mem _ z))]
theorem wipe_keep (s : St) {i : Nat} : ∀ {vs : List Nat}, i ∉ vs → (L2.wipe s vs)[i]? = s[i]?
  | [], _ => rfl
  | v :: vs, h => by
    have h1 : v ≠ i := fun e => h (e ▸ List.mem_cons_self)
    unfold L2.wipe
    rw [List.getElem?_set_ne h1, wipe_keep s (fun z => h (List.mem_cons_of_mem _ z))]
theorem plwipe_some {s : PL.Sl} {i : Nat} {x : PL.D} : ∀ {vs : List Nat}, (PL.wipe s vs)[i]? = some (some x) → s[i]? = some (some x) ∧ i ∉ vs
  | [], h => ⟨h, by simp⟩
  | v :: vs, h => by
    unfold PL.wipe at h
    by_cases hi : v = i
    · subst hi
      by_cases hv : v < (PL.wipe s vs).length
      · rw [List.getElem?_set_self hv] at h; cases h
      · rw [List.getElem?_eq_none (by simpa using hv)] at h; cases h
    · rw [List.getElem?_set_ne hi] at h
      obtain ⟨h1, h2⟩ := plwipe_some h
      exact ⟨h1, by simp only [List.mem_cons, not_or]; exact ⟨fun e => hi e.symm, h2⟩⟩
theorem plwipe_wipe (s : PL.Sl) (vs : List Nat) : PL.wipe (PL.wipe s vs) vs = PL.wipe s vs := by
  refine List.ext_getElem? fun i => ?_
  have key : ∀ (τ : PL.Sl) (us : List Nat), (∀ j, j ∈ us → j < τ.length → τ[j]? = some none) → (PL.wipe τ us)[i]? = τ[i]? := by
    intro τ us
    induction us with
    | nil => intro _; rfl
    | cons u us ih =>
      intro h
      have e := ih fun j hj => h j (List.mem_cons_of_mem _ hj)
      unfold PL.wipe
      by_cases hi : u = i
      · subst hi
        by_cases hl : u < τ.length
        · rw [List.getElem?_set_self (by rw [plwipe_length]; exact hl), h u List.mem_cons_self hl]
        · rw [List.getElem?_eq_none (by simpa [plwipe_length] using hl), List.getElem?_eq_none (by simpa using hl)]
      · rw [List.getElem?_set_ne hi, e]
  refine key _ _ fun j hj hl => ?_
  cases q : (PL.wipe s vs)[j]? with
  | none => rw [List.getElem?_eq_none_iff] at q; omega
  | some o =>
    cases o with
    | none => rfl
    | some x => exact absurd hj (plwipe_some q).2
theorem Rel.wipe (R : Rel P w B O σ H G s r) (vs : List Nat) (hv : ∀ v ∈ vs, v ∉ O) : Rel P w B O (L2.wipe σ vs) H G (PL.wipe s vs) r :=
  R.slots (by rw [plwipe_length, L2.wipe_length]; exact R.len) (fun i d hi hd => by
    obtain ⟨h1, h2⟩ := plwipe_some hd
    obtain ⟨v, e, D⟩ := R.pub i d hi h1
    exact ⟨v, by rw [wipe_keep σ h2]; exact e, D⟩) fun i hi => ⟨plwipe_keep s fun z => hv i z hi, wipe_keep σ fun z => hv i z hi⟩
theorem Rel.unwipe {vs : List Nat} {H1 G1 : Hp} {r1 : PL.Row} (R : Rel P w B O (L2.wipe σ vs) H G (PL.wipe s vs) r) (hv : ∀ v ∈ vs, v ∉ O) (R1 : Rel P w B O σ H1 G1 s r1) (S : Same G1 G) : Rel P w B O σ H G s r :=
  R.slots R1.len (fun i d hi hd => by
    obtain ⟨v, e, D⟩ := R1.pub i d hi hd
    exact ⟨v, e, D.mono S⟩) fun i hi => ⟨(plwipe_keep s fun z => hv i z hi).symm, (wipe_keep σ fun z => hv i z hi).symm⟩
/-- an owned object is frozen -/
theorem Rel.publ (i : Nat) (R : Rel P w B O σ H G s r) (bo : BOk K B) : ∃ G', Same G G' ∧ Rel P w B (O.filter (· != i)) σ H G' s r := by
  have mem : ∀ j, j ∈ O.filter (· != i) ↔ j ∈ O ∧ j ≠ i := fun j => by simp
  have plain : (∀ d, i ∈ O → s[i]? = some (some d) → False) → ∃ G', Same G G' ∧ Rel P w B (O.filter (· != i)) σ H G' s r := fun hn =>
    ⟨G, Same.refl _, R.len, R.sub, R.g0, R.k0, R.n0, R.row, R.tab, R.tmp, fun j d hj hd => by
      by_cases q : j ∈ O
      · by_cases e : j = i
        · subst e; exact (hn d q hd).elim
        · exact absurd ((mem j).mpr ⟨q, e⟩) hj
      · exact R.pub j d q hd, fun j hj d hd => R.own j ((mem j).mp hj).1 d hd, fun j k d e a hj hk => R.inj j k d e a ((mem j).mp hj).1 ((mem k).mp hk).1⟩
  by_cases hi : i ∈ O
  · cases q : s[i]? with
    | none => exact plain fun d _ z => by rw [q] at z; cases z
    | some o =>
      cases o with
      | none => exact plain fun d _ z => by rw [q] at z; cases z
      | some d0 =>
        obtain ⟨a, ha, f1, f2, f3, hw⟩ := R.own i hi d0 q
        obtain ⟨o, ho, k⟩ := own_dv hw
        have gg : Same G (upd G a o) := fun b u h => by rw [upd_ne (ne_of_none h f1)]; exact h
        refine ⟨upd G a o, gg, R.len, fun b u h => ?_, R.g0.trans gg, R.k0, fun b h1 h2 => ?_, R.row, R.tab, fun b u h => ⟨(R.tmp b u h).1, ?_⟩, fun j d hj hd => ?_, fun j hj d hd => ?_, fun j k d e a hj hk => R.inj j k d e a ((mem j).mp hj).1 ((mem k).mp hk).1⟩
        · by_cases e : b = a
          · subst e; rw [upd_same] at h; cases h; exact ho
          · rw [upd_ne e] at h; exact R.sub b u h
        · by_cases e : b = a
          · subst e; exact absurd f2 h2
          · rw [upd_ne e]; exact R.n0 b h1 h2
        · by_cases e : b = a
          · subst e; rw [f3] at h; cases h
          · rw [upd_ne e]; exact (R.tmp b u h).2
        · by_cases e : j = i
          · subst e
            rw [q] at hd
            cases hd
            exact ⟨_, ha, k _ gg upd_same⟩
          · obtain ⟨v, h1, h2⟩ := R.pub j d (fun z => hj ((mem j).mpr ⟨z, e⟩)) hd
            exact ⟨v, h1, h2.mono gg⟩
        · obtain ⟨hj1, hj2⟩ := (mem j).mp hj
          obtain ⟨b, h1, h2, h3, h4, h5⟩ := R.own j hj1 d hd
          have e : b ≠ a := fun e => by subst e; exact hj2 (R.inj j i d d0 b hj1 hi hd q h1 ha)
          exact ⟨b, h1, by rw [upd_ne e]; exact h2, h3, h4, h5.mono rfl gg⟩
  · exact plain fun d z _ => hi z
end

/-! ### targets -/
def tG (P : Program) (w : World) (O vs : List Nat) (f : PL.Tg) : TG := fun v σ H Q => ∃ (B : Bs) (G : Hp) (s : PL.Sl) (r : PL.Row) (d : PL.D) (s' : PL.Sl), Rel P w B O σ H G s r ∧ Dv P w B.r0 G v d ∧ f d s = some s' ∧
  ∀ σ', Rel P w B O σ' H G s' r → L2.wipe σ' vs = L2.wipe σ vs → PL.wipe s' vs = PL.wipe s vs → Q σ' H
def tGs (P : Program) (w : World) (O vs : List Nat) (f : List PL.Tg) : TGs := fun us σ H Q => ∃ (B : Bs) (G : Hp) (s : PL.Sl) (r : PL.Row) (ds : List PL.D) (s' : PL.Sl), Rel P w B O σ H G s r ∧ DvA P w B.r0 G us ds ∧ PL.gAll f ds s = some s' ∧
  ∀ σ', Rel P w B O σ' H G s' r → L2.wipe σ' vs = L2.wipe σ vs → PL.wipe s' vs = PL.wipe s vs → Q σ' H
abbrev DG (X : Cx) (O vs : List Nat) (tg : Expr) (f : PL.Tg) : Prop := PG X tg (tG X.prog X.w O vs f)
abbrev DGs (X : Cx) (O vs : List Nat) (tgs : List Expr) (f : List PL.Tg) : Prop := PGs X tgs (tGs X.prog X.w O vs f)
theorem pgI {X : Cx} {e : Expr} {t t' : TG} (h : PG X e t) (hi : ∀ v σ H Q, t' v σ H Q → t v σ H Q) : PG X e t' := ⟨fun p1 s σ H v u Q I rv q => h.run p1 s σ H v u Q I rv (hi v σ H Q q)⟩
theorem pgsI {X : Cx} {e : List Expr} {t t' : TGs} (h : PGs X e t) (hi : ∀ v σ H Q, t' v σ H Q → t v σ H Q) : PGs X e t' := ⟨fun p1 s σ H v u Q I rv q => h.run p1 s σ H v u Q I rv (hi v σ H Q q)⟩
theorem psI {X : Cx} {e : Stmt} {t t' : TS} (h : PS X e t) (hi : ∀ D σ H, t' D σ H → t D σ H) : PS X e t' := ⟨fun p1 s σ H D I q => h.run p1 s σ H D I (hi D σ H q)⟩
theorem pssI {X : Cx} {e : List Stmt} {t t' : TS} (h : PSs X e t) (hi : ∀ D σ H, t' D σ H → t D σ H) : PSs X e t' := ⟨fun p1 s σ H D I q => h.run p1 s σ H D I (hi D σ H q)⟩
theorem piI {X : Cx} {tg e : Expr} {t t' : TI} (h : PI X tg e t) (hi : ∀ σ H Q, t' σ H Q → t σ H Q) : PI X tg e t' := ⟨fun p1 s σ H R I q => h.run p1 s σ H R I (hi σ H R q)⟩
theorem wipe_set {i : Nat} {o : Option V} : ∀ {vs : List Nat} (σ : St), i ∈ vs → L2.wipe (σ.set i o) vs = L2.wipe σ vs
  | v :: vs, σ, h => by
    unfold L2.wipe
    by_cases e : i ∈ vs
    · rw [wipe_set σ e]
    · have hv : i = v := (List.mem_cons.mp h).resolve_right e
      subst hv
      refine List.ext_getElem? fun j => ?_
      by_cases q : i = j
      · subst q
        by_cases hl : i < σ.length
        · rw [List.getElem?_set_self (by rw [L2.wipe_length, List.length_set]; exact hl), List.getElem?_set_self (by rw [L2.wipe_length]; exact hl)]
        · rw [List.getElem?_eq_none (by simp [L2.wipe_length]; omega), List.getElem?_eq_none (by simp [L2.wipe_length]; omega)]
      · rw [List.getElem?_set_ne q, List.getElem?_set_ne q]
        by_cases hj : j ∈ vs
        · have z : ∀ τ : St, τ.length = σ.length → (L2.wipe τ vs)[j]? = if j < σ.length then some none else none := fun τ hτ => by
            by_cases hl : j < σ.length
            · rw [if_pos hl]
              cases q2 : (L2.wipe τ vs)[j]? with
              | none => rw [List.getElem?_eq_none_iff, L2.wipe_length] at q2; omega
              | some o => cases o with
                | none => rfl
                | some x => exact absurd hj (L2.wipe_some q2).2
            · rw [if_neg hl]; exact List.getElem?_eq_none (by rw [L2.wipe_length]; omega)
          rw [z _ (by simp), z _ rfl]
        · rw [wipe_keep _ hj, wipe_keep _ hj, List.getElem?_set_ne q]
theorem plwipe_set {i : Nat} {o : Option PL.D} : ∀ {vs : List Nat} (σ : PL.Sl), i ∈ vs → PL.wipe (σ.set i o) vs = PL.wipe σ vs
  | v :: vs, σ, h => by
    unfold PL.wipe
    by_cases e : i ∈ vs
    · rw [plwipe_set σ e]
    · have hv : i = v := (List.mem_cons.mp h).resolve_right e
      subst hv
      refine List.ext_getElem? fun j => ?_
      by_cases q : i = j
      · subst q
        by_cases hl : i < σ.length
        · rw [List.getElem?_set_self (by rw [plwipe_length, List.length_set]; exact hl), List.getElem?_set_self (by rw [plwipe_length]; exact hl)]
        · rw [List.getElem?_eq_none (by simp [plwipe_length]; omega), List.getElem?_eq_none (by simp [plwipe_length]; omega)]
      · rw [List.getElem?_set_ne q, List.getElem?_set_ne q]
        by_cases hj : j ∈ vs
        · have z : ∀ τ : PL.Sl, τ.length = σ.length → (PL.wipe τ vs)[j]? = if j < σ.length then some none else none := fun τ hτ => by
            by_cases hl : j < σ.length
            · rw [if_pos hl]
              cases q2 : (PL.wipe τ vs)[j]? with
              | none => rw [List.getElem?_eq_none_iff, plwipe_length] at q2; omega
              | some o => cases o with
                | none => rfl
                | some x => exact absurd hj (plwipe_some q2).2
            · rw [if_neg hl]; exact List.getElem?_eq_none (by rw [plwipe_length]; omega)
          rw [z _ (by simp), z _ rfl]
        · rw [plwipe_keep _ hj, plwipe_keep _ hj, List.getElem?_set_ne q]
section
variable {X : Cx} {T : List Addr} {O O1 O' vs : List Nat} {e tg : Expr} {es : List Expr} {pos : Pos} {f : PL.Ex} {g : PL.Tg} {gs : List PL.Tg}
theorem dg_var (i : Nat) {x : Str} (hN : X.N.Nodup) (hi : X.N[i]? = some x := by rfl) (hx : Loc X.env.scope x := by first | exact Or.inl rfl | exact Or.inr rfl) (hO : i ∉ O := by decide) (hv : i ∈ vs := by decide)
    (hf : X.fn x = true ∨ X.env.scope.names.lookup x = some .local := by first | exact .inl rfl | exact .inr rfl) : DG X O vs (.Name x pos) (PL.gVar i) := by
  refine pgI (pg_name hN hi hx hf) fun v σ H Q h => ?_
  obtain ⟨B, G, s, r, d, s', R, D, hg, q⟩ := h
  cases hg
  exact q _ (R.set hO D) (wipe_set σ hv) (plwipe_set s hv)
theorem dgs_nil : DGs X O vs [] [] := by
  refine pgsI pgs_nil fun us σ H Q h => ?_
  obtain ⟨B, G, s, r, ds, s', R, D, hg, q⟩ := h
  cases ds with
  | nil =>
    cases D
    cases hg
    exact ⟨rfl, q σ R rfl rfl⟩
  | cons d ds => cases hg
theorem dgs_cons (h1 : DG X O vs e g) (h2 : DGs X O vs es gs) (hs : (assignEach (e :: es) X.env).map (·.2) = assign e X.env :: (assignEach es X.env).map (·.2) := by rfl) : DGs X O vs (e :: es) (g :: gs) := by
  refine pgsI (pgs_cons h1 h2 hs) fun us σ H Q h => ?_
  obtain ⟨B, G, s, r, ds, s', R, D, hg, q⟩ := h
  cases ds with
  | nil => cases hg
  | cons d ds =>
    cases D with
    | cons D1 D2 =>
      have hg : (match g d s with | some s1 => PL.gAll gs ds s1 | none => none) = some s' := hg
      split at hg
      · rename_i s1 e1
        exact ⟨_, _, rfl, B, G, s, r, d, s1, R, D1, e1, fun σ1 R1 w1 w2 => ⟨B, G, s1, r, ds, s', R1, D2, hg, fun σ2 R2 w3 w4 => q σ2 R2 (w3.trans w1) (w4.trans w2)⟩⟩
      · cases hg
theorem gAll_length : ∀ {gs : List PL.Tg} {ds : List PL.D} {s s' : PL.Sl}, PL.gAll gs ds s = some s' → ds.length = gs.length
  | [], [], _, _, _ => rfl
  | [], _ :: _, _, _, h => nomatch h
  | _ :: _, [], _, _, h => nomatch h
  | g :: gs, d :: ds, s, s', h => by
    have h : (match g d s with | some s1 => PL.gAll gs ds s1 | none => none) = some s' := h
    split at h
    · simp [gAll_length h]
    · cases h
theorem dg_tup {k : Nat} (hc : X.calm = true) (h : DGs X O vs es gs) (hn : (assignEach es X.env).length = gs.length := by rfl) (hst : (assignEach es X.env).findIdx? (·.1) = none := by rfl) : DG X O vs (.Tuple es k pos) (PL.gTup gs) := by
  refine pgI (pg_tup hc h hn hst) fun v σ H Q h => ?_
  obtain ⟨B, G, s, r, d, s', R, D, hg, q⟩ := h
  cases D with
  | tup ha hA =>
    have hg : PL.gAll gs _ s = some s' := hg
    exact ⟨_, _, rfl, .inl (.inl (R.sub _ _ ha)), by rw [hA.length]; exact gAll_length hg, B, G, s, r, _, s', R, hA, hg, q⟩
  | _ => cases hg
end
end DL
end
section
set_option Elab.async false
set_option autoImplicit false
set_option linter.all false
set_option maxRecDepth 100000
set_option maxHeartbeats 1000000
/-! DL5: walkers, statements. -/
namespace DL
open PySem PySem.Spec PyProof.Rows L2

/-! ### walkers -/
structure WalkD (P : Program) (w : World) (r0 : Addr) (J : It) (ds : List PL.D) (G : Hp) : Prop where
  go : ∀ i H, Same G H → i < ds.length → J.go i H
  stop : ∀ i H, Same G H → i = ds.length → J.stop i H
  yld : ∀ i H x H', Same G H → i < ds.length → J.yld i H x H' → ∃ d, ds[i]? = some d ∧ ((H' = H ∧ Dv P w r0 G x d) ∨ ∃ p xs es, x = .ref p ∧ H p = none ∧ H' = upd H p (.tup xs) ∧ d = .tup es ∧ DvA P w r0 G xs es)
def tI (P : Program) (w : World) (K : PySem.W.Frag) (T : List Addr) (O : List Nat) (f : PL.Ar) : TI := fun σ H R =>
  ∃ (B : Bs) (G : Hp) (s : PL.Sl) (r : PL.Row) (ds : List PL.D) (r' : PL.Row), B.tabs = T ∧ BOk K B ∧ Rel P w B O σ H G s r ∧ f s r = some (ds, r') ∧
    ∀ J H' G', Rel P w B O σ H' G' s r' → Same G G' → WalkD P w B.r0 J ds G' → R J H'
abbrev DI (X : Cx) (T : List Addr) (O : List Nat) (tg it : Expr) (f : PL.Ar) : Prop := PI X tg it (tI X.prog X.w X.K T O f)
section
variable {P : Program} {w : World} {K : PySem.W.Frag} {B : Bs} {O : List Nat} {σ : St} {H H' G G' : Hp} {s : PL.Sl} {r : PL.Row} {J : It} {ds : List PL.D} {i : Nat} {x : V}
theorem WalkD.turn (W : WalkD P w B.r0 J ds G) (S : Same G G') (R : Rel P w B O σ H G' s r) (bo : BOk K B) (hi : i < ds.length) (hy : J.yld i H x H') : ∃ d G2, ds[i]? = some d ∧ Rel P w B O σ H' G2 s r ∧ Same G' G2 ∧ Dv P w B.r0 G2 x d := by
  obtain ⟨d, hd, z⟩ := W.yld i H x H' (fun b o h => R.sub b o (S b o h)) hi hy
  rcases z with ⟨rfl, D⟩ | ⟨p, xs, es, rfl, hp, rfl, rfl, D⟩
  · exact ⟨d, G', hd, R, Same.refl _, D.mono S⟩
  · obtain ⟨R2, S2⟩ := R.alloc (o := .tup xs) bo hp
    exact ⟨_, _, hd, R2, S2, .tup upd_same (D.mono (S.trans S2))⟩
theorem walk_lst {a : Addr} {xs : List V} (ha : G a = some (.lst xs)) (D : DvA P w B.r0 G xs ds) : WalkD P w B.r0 (Itl K a) ds G where
  go := fun i H S hi => ⟨xs, xs[i]'(by rw [D.length]; exact hi), .inl (.inl (S _ _ ha)), List.getElem?_eq_getElem _⟩
  stop := fun i H S hi => ⟨xs, .inl (.inl (S _ _ ha)), by rw [hi, D.length]; exact Nat.le_refl _⟩
  yld := fun i H x H' S hi hy => by
    obtain ⟨d, e, Dx⟩ := D.getV (hy.2 xs (.inl (.inl (S _ _ ha))))
    exact ⟨d, e, .inl ⟨hy.1, Dx⟩⟩
theorem walk_tup {a : Addr} {xs : List V} (ha : G a = some (.tup xs)) (D : DvA P w B.r0 G xs ds) : WalkD P w B.r0 (Itt K a) ds G where
  go := fun i H S hi => ⟨xs, xs[i]'(by rw [D.length]; exact hi), .inl (.inl (S _ _ ha)), List.getElem?_eq_getElem _⟩
  stop := fun i H S hi => ⟨xs, .inl (.inl (S _ _ ha)), by rw [hi, D.length]; exact Nat.le_refl _⟩
  yld := fun i H x H' S hi hy => by
    obtain ⟨d, e, Dx⟩ := D.getV (hy.2 xs (.inl (.inl (S _ _ ha))))
    exact ⟨d, e, .inl ⟨hy.1, Dx⟩⟩
end
def iSeq (K : PySem.W.Frag) (tl : TE) : TI := fun σ H R => tl σ H fun x H1 => ∃ a xs, x = .ref a ∧ ((SqL K H1 a xs ∧ R (Itl K a) H1) ∨ (SqT K H1 a xs ∧ R (Itt K a) H1))
theorem pi_seq {X : Cx} {tg l : Expr} {tl : TE} (hl : PE X l tl) : PI X tg l (iSeq X.K tl) := by
  refine ⟨fun pins s σ H R I h => thn (hl.run pins s σ H _ I h) fun v s1 ⟨x, H1, I1, r1, q1⟩ => ?_⟩
  obtain ⟨a, xs, e, q⟩ := q1
  subst e
  cases r1
  have fr : ∀ b ∈ [s1.heap.objs.size], FpOk X pins H1 b := fun b hb => by
    have e : b = s1.heap.objs.size := by simpa using hb
    rw [e]; exact I1.fpOk (Nat.le_refl _) (I1.hok.fresh (Nat.le_refl _))
  rcases q with ⟨hq, q⟩ | ⟨hq, q⟩
  · obtain ⟨its, rv, p, _⟩ := I1.list hq
    exact wpAny_pyIter_list p.isList ⟨s1.heap.objs.size, [s1.heap.objs.size], _, _, H1, rfl, I1.kept (t' := s1.toks) fun b o e => Heap.get?_push_of_some _ e, turn_list a _, ⟨_, Heap.get?_push_size _ rfl, rfl, rfl⟩, fr, q⟩
  · obtain ⟨its, rv, p, _⟩ := I1.tuple hq
    exact wpAny_pyIter_tuple (show s1.heap.IsTuple a its.toArray from p) ⟨s1.heap.objs.size, [s1.heap.objs.size], _, _, H1, rfl, I1.kept (t' := s1.toks) fun b o e => Heap.get?_push_of_some _ e, turn_tuple a _, ⟨_, Heap.get?_push_size _ rfl, rfl, rfl⟩, fr, q⟩
/-- the keys of an exact dict, new or not -/
def ItkE (d : Addr) (o : Obj) (xs : List (NestedKey × Addr × Value)) : It :=
  ⟨fun i H => H d = some (exact d o) ∧ i < xs.length, fun i H x H' => H' = H ∧ ∃ k, xs[i]? = some k ∧ x = .ref k.2.1, fun i H => H d = some (exact d o) ∧ xs.length ≤ i⟩
section
variable {P : Program} {w : World} {K : PySem.W.Frag} {tg : Expr} {d : Addr} {o : Obj} {xs : List (NestedKey × Addr × Value)} {es : Array DictEntry} {ep : Nat}
theorem turn_keysE (it : Addr) (hod : o.data = .dict es ep) (hes : es.toList = xs.map (entryOfKey (nestedKind P w))) : Turn P w K tg (ItkE d o xs) [it] it (fun i h => h.IsKeyIter it d i xs.length ep) where
  mem := by simp
  obj := fun i h st b hb => by
    have e : b = it := by simpa using hb
    subst e
    obtain ⟨oi, e, c, dd⟩ := st
    exact ⟨oi, e, fun v z => by rw [dd] at z; cases z⟩
  keep := fun i h h' st k => st.at fun oi e => k it (by simp) oi e
  item := by
    intro X hP hw hK hc i pins s σ H E I hf st hg
    obtain ⟨hd, hi⟩ := hg
    obtain ⟨f0, f1, f2, f3, f4, f5⟩ := hf it (by simp)
    obtain ⟨hgd, _⟩ := I.hok d _ hd
    have hsz : es.size = xs.length := by rw [← Array.length_toList, hes, List.length_map]
    obtain ⟨k, hk⟩ : ∃ k, xs[i]? = some k := ⟨xs[i], List.getElem?_eq_getElem hi⟩
    have hen : es[i]? = some (entryOfKey (nestedKind P w) k) := by rw [← Array.getElem?_toList, hes, List.getElem?_map, hk]; rfl
    refine next_key_item st hgd hod hsz hen fun h' st' sb => ?_
    have I1 : Inv X pins σ H { s with heap := h' } := I.turned (t' := s.toks) (fun b ob hb e => (sb.2 b hb).trans e) f0 f1 f3 f4 f5
    obtain ⟨oi, e, c, dd⟩ := id st'
    exact ⟨_, rfl, go_of (s := { s with heap := h' }) e c dd (by decide) ⟨.ref k.2.1, H, I1, rfl, ⟨rfl, k, hk, rfl⟩, st', fun b hb => (hf b hb).1⟩⟩
  done := by
    intro X hP hw hK hc i pins s σ H E I hf st hg
    obtain ⟨hd, hi⟩ := hg
    obtain ⟨f0, f1, f2, f3, f4, f5⟩ := hf it (by simp)
    obtain ⟨hgd, _⟩ := I.hok d _ hd
    have hsz : es.size = xs.length := by rw [← Array.length_toList, hes, List.length_map]
    exact next_key_end (I.ok.hd hc) st hgd hod hsz hi fun h' eb => ⟨rfl, I.turned (t' := s.toks) (fun b ob hb e => eb b ob hb e) f0 f1 f3 f4 f5⟩
  self := fun A i s Q E st h => by
    refine wpAny_pyIter_slot st.typeIs F.slot_dict_keyiterator_iter (wpAny_call_entry F.slot_dict_keyiterator_iter st.typeIs F.entry_dict_keyiterator_iter ?_ (F.args_dict_keyiterator_iter_1 _))
    show wpAny _ _ (ret (.ref it)) _ _ s
    exact wpAny_pure ⟨_, rfl, "dict_keyiterator", _, st.typeIs, F.slot_dict_keyiterator_next.lookup, h⟩
end
def iKeysE (P : Program) (w : World) (td : TE) : TI := fun σ H R => td σ H fun x H1 => ∃ d o xs, x = .ref d ∧ H1 d = some (exact d o) ∧ (d == sysModules) = false ∧ DObj P w o xs ∧ R (ItkE d o xs) H1
theorem pi_keysE {X : Cx} {tg e : Expr} {td : TE} (he : PE X e td) : PI X tg e (iKeysE X.prog X.w td) := by
  refine ⟨fun pins s σ H R I h => thn (he.run pins s σ H _ I h) fun u s1 ⟨x, H1, I1, rx, d, o, xs, ex, hd, hs, ho, q⟩ => ?_⟩
  subst ex
  obtain rfl : u = Value.ref d := rx
  obtain ⟨hgd, _⟩ := I1.hok d _ hd
  obtain ⟨hx, ⟨es, ep, hdt, hes⟩, _, _⟩ := ho
  have hsz : es.size = xs.length := by rw [← Array.length_toList, hes, List.length_map]
  refine iter_keys hs hgd hx hdt (pi_one (tk := s1.toks) I1 _ (turn_keysE _ hdt hes) ⟨_, Heap.get?_push_size _ rfl, rfl, ?_⟩ q)
  rw [hsz] <;> rfl
theorem dvt_get {P : Program} {w : World} {r0 : Addr} {G : Hp} : ∀ {xs : List (NestedKey × Addr × Value)} {es : List (PL.D × PL.D)} {i : Nat} {k : NestedKey × Addr × Value}, DvT P w r0 G xs es → xs[i]? = some k → ∃ d, (es.map (·.1))[i]? = some d ∧ Dv P w r0 G (.ref k.2.1) d
  | _, _, i, k, .nil, h => by simp at h
  | _, _, 0, k, .cons a1 _ _ _ _, h => by
    simp only [List.getElem?_cons_zero, Option.some.injEq] at h
    subst h
    exact ⟨_, rfl, a1⟩
  | _, _, i + 1, k, .cons _ _ _ _ a5, h => by
    simp only [List.getElem?_cons_succ] at h
    obtain ⟨d, e, D⟩ := dvt_get a5 h
    exact ⟨d, by simpa using e, D⟩
section
variable {X : Cx} {T : List Addr} {O O1 O' vs : List Nat} {a b e tg it : Expr} {es : List Expr} {pos : Pos} {fa fb f : PL.Ex} {g : PL.Tg} {gs : List PL.Tg} {wa : PL.Ar}
theorem dw_seq (ha : DE X T O a fa) : DI X T O tg a (PL.wSeq fa) := by
  refine piI (pi_seq ha) fun σ H R h => ?_
  obtain ⟨B, G, s, r, ds, r', hT, bo, Rl, hf, q⟩ := h
  unfold PL.wSeq at hf
  split at hf
  · rename_i ds' r1 ea
    cases hf
    refine ⟨B, G, s, r, _, r', hT, bo, Rl, ea, fun v H' G' R' S' D' => ?_⟩
    cases D' with
    | lst h1 h2 => exact ⟨_, _, rfl, .inl ⟨.inl (.inl (R'.sub _ _ h1)), q _ H' G' R' S' (walk_lst h1 h2)⟩⟩
  · rename_i ds' r1 ea
    cases hf
    refine ⟨B, G, s, r, _, r', hT, bo, Rl, ea, fun v H' G' R' S' D' => ?_⟩
    cases D' with
    | tup h1 h2 => exact ⟨_, _, rfl, .inr ⟨.inl (.inl (R'.sub _ _ h1)), q _ H' G' R' S' (walk_tup h1 h2)⟩⟩
  · cases hf
theorem dw_keys (ha : DE X T O a fa) : DI X T O tg a (PL.wKeys fa) := by
  refine piI (pi_keysE ha) fun σ H R h => ?_
  obtain ⟨B, G, s, r, ds, r', hT, bo, Rl, hf, q⟩ := h
  unfold PL.wKeys at hf
  split at hf
  · rename_i es r1 ea
    cases hf
    refine ⟨B, G, s, r, _, r', hT, bo, Rl, ea, fun v H' G' R' S' D' => ?_⟩
    cases D' with
    | dkt h1 h2 h3 h4 =>
      have hl := dvt_length h4
      refine ⟨_, _, _, rfl, R'.sub _ _ h1, h2, h3, q _ H' G' R' S' ⟨fun i H S hi => ⟨S _ _ h1, by rw [hl]; simpa using hi⟩, fun i H S hi => ⟨S _ _ h1, by rw [hi, hl]; simp⟩, fun i H x H2 S hi hy => ?_⟩⟩
      obtain ⟨rfl, k, hk, rfl⟩ := hy
      obtain ⟨d, e, D⟩ := dvt_get h4 hk
      exact ⟨d, e, .inl ⟨rfl, D⟩⟩
  · cases hf
theorem rng_get {n : Int} {i : Nat} (h : i < (PL.rng 0 n).length) : (PL.rng 0 n)[i]? = some (.int (i : Nat)) := by
  unfold PL.rng at h ⊢
  rw [List.getElem?_map, List.getElem?_range (by simpa using h)]
  simp
theorem dw_range {p : Pos} (hg : Gl X "range") (hm : X.mg "range" = none) (ha : DE X T O a fa) (hs : starEach [a] X.env = (false, eval a X.env) :: starEach [] X.env := by rfl) : DI X T O tg (.Call (.Name "range" p) [a] [] pos) (PL.wRange fa) := by
  refine piI (pi_range1 hg hm (pa_cons ha pa_nil hs) hs) fun σ H R h => ?_
  obtain ⟨B, G, s, r, ds, r', hT, bo, Rl, hf, q⟩ := h
  unfold PL.wRange at hf
  split at hf
  · rename_i n r1 ea
    split at hf
    · rename_i hn
      cases hf
      refine ⟨B, G, s, r, _, r', hT, bo, Rl, ea, fun v H' G' R' S' D' => ?_⟩
      cases D'
      have hl : (PL.rng 0 n).length = n.toNat := by simp [PL.rng]
      refine ⟨n, rfl, by omega, by omega, q _ H' G' R' S' ⟨fun i H S hi => by rw [hl] at hi; exact hi, fun i H S hi => by rw [hl] at hi; exact Nat.le_of_eq hi.symm, fun i H x H2 S hi hy => ?_⟩⟩
      obtain ⟨rfl, rfl⟩ := hy
      exact ⟨_, rng_get hi, .inl ⟨rfl, by rw [Int.zero_add]; exact .int _⟩⟩
    · cases hf
  · cases hf
theorem dw_enum {p tpos : Pos} {elts : List Expr} {kk : Nat} (hg : Gl X "enumerate") (hm : X.mg "enumerate" = none) (ha : DE X T O a fa) (hs : starEach [a] X.env = (false, eval a X.env) :: starEach [] X.env := by rfl) : DI X T O (.Tuple elts kk tpos) (.Call (.Name "enumerate" p) [a] [] pos) (PL.wEnum fa) := by
  refine piI (GG.pi_enumT hg hm (pa_cons ha pa_nil hs) hs) fun σ H R h => ?_
  obtain ⟨B, G, s, r, ds, r', hT, bo, Rl, hf, q⟩ := h
  unfold PL.wEnum at hf
  split at hf
  · rename_i ds' r1 ea
    cases hf
    refine ⟨B, G, s, r, _, r', hT, bo, Rl, ea, fun v H' G' R' S' D' => ?_⟩
    cases D' with
    | tup h1 h2 =>
      rename_i a' xs
      have hl := h2.length
      have hl2 : ((List.range ds'.length).zipWith (fun i d => PL.D.tup [.int (i : Nat), d]) ds').length = ds'.length := by simp
      refine ⟨a', xs, rfl, .inl (.inl (R'.sub _ _ h1)), q _ H' G' R' S' ⟨fun i H S hi => ?_, fun i H S hi => ⟨xs, .inl (.inl (S _ _ h1)), by rw [hi, hl2, hl]⟩, fun i H x H2 S hi hy => ?_⟩⟩
      · exact ⟨xs, xs[i]'(by rw [hl, ← hl2]; exact hi), .inl (.inl (S _ _ h1)), List.getElem?_eq_getElem _⟩
      · obtain ⟨p1, x1, rfl, hp, rfl, hx⟩ := hy
        obtain ⟨d, e, D⟩ := h2.getV (hx xs (.inl (.inl (S _ _ h1))))
        rw [hl2] at hi
        exact ⟨.tup [.int (i : Nat), d], by rw [List.getElem?_zipWith, List.getElem?_range hi, e], .inr ⟨p1, _, _, rfl, hp, rfl, rfl, .cons (.int _) (.cons D .nil)⟩⟩
  · cases hf
theorem dw_zip {p tpos : Pos} {elts : List Expr} {kk : Nat} (hg : Gl X "zip") (hm : X.mg "zip" = none) (ha : DE X T O a fa) (hb : DE X T O b fb) (hs : starEach [a, b] X.env = (false, eval a X.env) :: starEach [b] X.env := by rfl) (hs2 : starEach [b] X.env = (false, eval b X.env) :: starEach [] X.env := by rfl)
    (hpl : (backTo pos (starEach [b] X.env)).any (·.1) = false := by rfl) : DI X T O (.Tuple elts kk tpos) (.Call (.Name "zip" p) [a, b] [] pos) (PL.wZip fa fb) := by
  refine piI (RZ.pi_zipA hg hm (pa_cons ha (pa_cons hb pa_nil hs2) hs) hs hpl) fun σ H R h => ?_
  obtain ⟨B, G, s, r, ds, r', hT, bo, Rl, hf, q⟩ := h
  unfold PL.wZip at hf
  split at hf
  · rename_i ds1 r1 ea
    split at hf
    · rename_i ds2 r2 eb
      cases hf
      refine ⟨B, G, s, r, _, r1, hT, bo, Rl, ea, fun v1 H1 G1 R1 S1 D1 => ⟨B, G1, s, r1, _, r', hT, bo, R1, eb, fun v2 H2 G2 R2 S2 D2 => ?_⟩⟩
      have D1' := D1.mono S2
      cases D1' with
      | tup h1 h2 =>
        cases D2 with
        | tup h3 h4 =>
          rename_i a1 xs1 a2 xs2
          have l1 := h2.length
          have l2 := h4.length
          have hl : (ds1.zipWith (fun d e => PL.D.tup [d, e]) ds2).length = min ds1.length ds2.length := by simp
          refine ⟨a1, a2, xs1, xs2, rfl, .inr ⟨.inl (.inl (R2.sub _ _ h1)), .inl (.inl (R2.sub _ _ h3)), q _ H2 G2 R2 (S1.trans S2) ⟨fun i H S hi => ?_, fun i H S hi => ⟨xs1, xs2, .inl (.inl (S _ _ h1)), .inl (.inl (S _ _ h3)), by omega⟩, fun i H x H3 S hi hy => ?_⟩⟩⟩
          · rw [hl] at hi
            exact ⟨xs1, xs2, xs1[i]'(by omega), xs2[i]'(by omega), .inl (.inl (S _ _ h1)), .inl (.inl (S _ _ h3)), List.getElem?_eq_getElem _, List.getElem?_eq_getElem _⟩
          · obtain ⟨p1, x1, y1, rfl, hp, rfl, hx, hy⟩ := hy
            obtain ⟨d, e, D⟩ := h2.getV (hx xs1 (.inl (.inl (S _ _ h1))))
            obtain ⟨d2, e2, D2⟩ := h4.getV (hy xs2 (.inl (.inl (S _ _ h3))))
            exact ⟨.tup [d, d2], by rw [List.getElem?_zipWith, e, e2], .inr ⟨p1, _, _, rfl, hp, rfl, rfl, .cons D (.cons D2 .nil)⟩⟩
    · cases hf
  · cases hf
end

/-! ### statements -/
def tS (P : Program) (w : World) (K : PySem.W.Frag) (T : List Addr) (O O' : List Nat) (f : PL.Sm) : TS := fun D σ H =>
  ∃ (B : Bs) (G : Hp) (s : PL.Sl) (r : PL.Row) (out : PL.Out), B.tabs = T ∧ BOk K B ∧ Rel P w B O σ H G s r ∧ f s r = some out ∧
    (∀ s' r' σ' H' G', out = .nx s' r' → Rel P w B O' σ' H' G' s' r' → Same G G' → D.nx σ' H') ∧
    ∀ d s' r' O'' σ' H' G' v, out = .rt d r' → Rel P w B O'' σ' H' G' s' r' → Same G G' → Dv P w B.r0 G' v d → D.rt v H'
abbrev DS (X : Cx) (T : List Addr) (O O' : List Nat) (st : Stmt) (f : PL.Sm) : Prop := PS X st (tS X.prog X.w X.K T O O' f)
abbrev DSs (X : Cx) (T : List Addr) (O O' : List Nat) (sts : List Stmt) (f : PL.Sm) : Prop := PSs X sts (tS X.prog X.w X.K T O O' f)
section
variable {X : Cx} {T : List Addr} {O O1 O' vs : List Nat} {a b e tg it : Expr} {st : Stmt} {sts body body2 : List Stmt} {pos pos' : Pos} {fa fb f : PL.Ex} {g : PL.Tg} {wa : PL.Ar} {m m1 m2 : PL.Sm} {tt : PL.Te}
theorem dss_nil : DSs X T O O [] PL.sNil := by
  refine pssI pss_nil fun D σ H h => ?_
  obtain ⟨B, G, s, r, out, hT, bo, R, hf, qn, qr⟩ := h
  cases hf
  exact qn _ _ _ _ _ rfl R (Same.refl _)
theorem dss_cons (h1 : DS X T O O1 st m1) (h2 : DSs X T O1 O' sts m2) : DSs X T O O' (st :: sts) (PL.sSeq m1 m2) := by
  refine pssI (pss_cons h1 h2) fun D σ H h => ?_
  obtain ⟨B, G, s, r, out, hT, bo, R, hf, qn, qr⟩ := h
  unfold PL.sSeq at hf
  split at hf
  · cases hf
  · rename_i s1 r1 e1
    refine ⟨B, G, s, r, _, hT, bo, R, e1, fun s' r' σ' H' G' he R' S' => ?_, fun d s' r' O'' σ' H' G' v he => nomatch he⟩
    cases he
    exact ⟨B, G', s1, r1, out, hT, bo, R', hf, fun s2 r2 σ2 H2 G2 he R2 S2 => qn s2 r2 σ2 H2 G2 he R2 (S'.trans S2), fun d s2 r2 O2 σ2 H2 G2 v he R2 S2 => qr d s2 r2 O2 σ2 H2 G2 v he R2 (S'.trans S2)⟩
  · rename_i d r1 e1
    cases hf
    exact ⟨B, G, s, r, _, hT, bo, R, e1, fun s' r' σ' H' G' he => (nomatch he), fun d s2 r2 O2 σ2 H2 G2 v he => qr d s2 r2 O2 σ2 H2 G2 v he⟩
theorem dss_pub (i : Nat) (hO : O.filter (· != i) = O1 := by rfl) (h : DSs X T O1 O' sts m) : DSs X T O O' sts m := by
  refine pssI h fun D σ H h => ?_
  obtain ⟨B, G, s, r, out, hT, bo, R, hf, qn, qr⟩ := h
  obtain ⟨G1, S1, R1⟩ := R.publ i bo
  rw [hO] at R1
  exact ⟨B, G1, s, r, out, hT, bo, R1, hf, fun s2 r2 σ2 H2 G2 he R2 S2 => qn s2 r2 σ2 H2 G2 he R2 (S1.trans S2), fun d s2 r2 O2 σ2 H2 G2 v he R2 S2 => qr d s2 r2 O2 σ2 H2 G2 v he R2 (S1.trans S2)⟩
theorem ds_set (i : Nat) {x : Str} (hN : X.N.Nodup) (he : DE X T O e f) (hi : X.N[i]? = some x := by rfl) (hx : Loc X.env.scope x := by first | exact Or.inl rfl | exact Or.inr rfl) (hO : i ∉ O := by decide)
    (hs : swapsWith e (some (.Name x pos')) pos.line X.env = pure false := by rfl) (hf : X.fn x = true ∨ X.env.scope.names.lookup x = some .local := by first | exact .inl rfl | exact .inr rfl) : DS X T O O (.Assign [.Name x pos'] e pos) (PL.sSet i f) := by
  refine psI (ps_set hN hi hx he hs hf) fun D σ H h => ?_
  obtain ⟨B, G, s, r, out, hT, bo, R, hf, qn, qr⟩ := h
  unfold PL.sSet at hf
  split at hf
  · cases hf
  · rename_i d r1 ea
    cases hf
    exact ⟨B, G, s, r, d, r1, hT, bo, R, ea, fun v H' G' R' S' D' => qn _ _ _ _ _ rfl (R'.set hO D') S'⟩
theorem dso_set (i : Nat) {x : Str} (hN : X.N.Nodup) (he : DF X T O e f) (hi : X.N[i]? = some x := by rfl) (hx : Loc X.env.scope x := by first | exact Or.inl rfl | exact Or.inr rfl)
    (hs : swapsWith e (some (.Name x pos')) pos.line X.env = pure false := by rfl) (hf : X.fn x = true ∨ X.env.scope.names.lookup x = some .local := by first | exact .inl rfl | exact .inr rfl) : DS X T O (i :: O) (.Assign [.Name x pos'] e pos) (PL.sSet i f) := by
  refine psI (ps_set hN hi hx he hs hf) fun D σ H h => ?_
  obtain ⟨B, G, s, r, out, hT, bo, R, hf, qn, qr⟩ := h
  unfold PL.sSet at hf
  split at hf
  · cases hf
  · rename_i d r1 ea
    cases hf
    refine ⟨B, G, s, r, d, r1, hT, bo, R, ea, fun v H' G' R' S' F' W' => qn _ _ _ _ _ rfl (R'.setOwn F'.1 F'.2.1 F'.2.2.1 W' fun j hj _ e' he' => F'.2.2.2 j hj e' he') S'⟩
theorem ds_tgt (hg : DG X O vs tg g) (he : DE X T O e f) (hs : swapsWithSole [tg] e pos.line X.env = pure false := by rfl) (hw : swappedStores [tg] e X.env = pure none := by rfl)
    (h1 : (assignEach [tg] X.env).map (·.2) = [assign tg X.env] := by rfl) : DS X T O O (.Assign [tg] e pos) (PL.sTgt g f) := by
  refine psI (ps_asg he hg hs hw h1) fun D σ H h => ?_
  obtain ⟨B, G, s, r, out, hT, bo, R, hf, qn, qr⟩ := h
  unfold PL.sTgt at hf
  split at hf
  · cases hf
  · rename_i d r1 ea
    split at hf
    · cases hf
    · rename_i s1 eg
      cases hf
      exact ⟨B, G, s, r, d, r1, hT, bo, R, ea, fun v H' G' R' S' D' => ⟨B, G', s, r1, d, s1, R', D', eg, fun σ' R2 _ _ => qn _ _ _ _ _ rfl R2 S'⟩⟩
theorem ds_ex (he : DE X T O e f) (hs : swapsWith e none pos.line X.env = pure false := by rfl) : DS X T O O (.Expr e pos) (PL.sEx f) := by
  refine psI (ps_expr he hs) fun D σ H h => ?_
  obtain ⟨B, G, s, r, out, hT, bo, R, hf, qn, qr⟩ := h
  unfold PL.sEx at hf
  split at hf
  · cases hf
  · rename_i d r1 ea
    cases hf
    exact ⟨B, G, s, r, d, r1, hT, bo, R, ea, fun v H' G' R' S' D' => qn _ _ _ _ _ rfl R' S'⟩
theorem ds_ret (he : DE X T O e f) : DS X T O O' (.Return (some e) pos) (PL.sRet f) := by
  refine psI (ps_ret he) fun D σ H h => ?_
  obtain ⟨B, G, s, r, out, hT, bo, R, hf, qn, qr⟩ := h
  unfold PL.sRet at hf
  split at hf
  · cases hf
  · rename_i d r1 ea
    cases hf
    exact ⟨B, G, s, r, d, r1, hT, bo, R, ea, fun v H' G' R' S' D' => qr d s r1 O σ H' G' v rfl R' S' D'⟩
theorem ds_never : DS X T O O' st PL.sNever := by
  refine psI ps_never fun D σ H h => ?_
  obtain ⟨B, G, s, r, out, hT, bo, R, hf, qn, qr⟩ := h
  cases hf
theorem ds_if (hc : DT X T O e tt) (ha : DSs X T O O' body m1) (hb : DSs X T O O' body2 m2) : DS X T O O' (.If e body body2 pos) (PL.sIf tt m1 m2) := by
  refine psI (ps_if hc ha hb) fun D σ H h => ?_
  obtain ⟨B, G, s, r, out, hT, bo, R, hf, qn, qr⟩ := h
  unfold PL.sIf at hf
  split at hf
  · cases hf
  · rename_i r1 ea
    refine ⟨B, G, s, r, true, r1, hT, bo, R, ea, fun H' G' R' S' => ?_⟩
    refine iteT ?_
    exact ⟨B, G', s, r1, out, hT, bo, R', hf, fun s2 r2 σ2 H2 G2 he R2 S2 => qn s2 r2 σ2 H2 G2 he R2 (S'.trans S2), fun d s2 r2 O2 σ2 H2 G2 v he R2 S2 => qr d s2 r2 O2 σ2 H2 G2 v he R2 (S'.trans S2)⟩
  · rename_i r1 ea
    refine ⟨B, G, s, r, false, r1, hT, bo, R, ea, fun H' G' R' S' => ?_⟩
    refine iteF ?_
    exact ⟨B, G', s, r1, out, hT, bo, R', hf, fun s2 r2 σ2 H2 G2 he R2 S2 => qn s2 r2 σ2 H2 G2 he R2 (S'.trans S2), fun d s2 r2 O2 σ2 H2 G2 v he R2 S2 => qr d s2 r2 O2 σ2 H2 G2 v he R2 (S'.trans S2)⟩
theorem ds_for (hp : PassesOwn (model X.prog X.w) X.A X.env X.xe) (hc : X.calm = true) (hi : DI X T O tg it wa) (hg : DG X O vs tg g) (hb : DSs X T O O body m)
    (hs : ∀ x, foldedSetIterable it X.env x = pure x := by intro _; rfl) : DS X T O O (.For tg it body [] pos) (PL.sFor g wa m) := by
  refine psI (ps_for hp hc hi hg hb hs) fun D σ H h => ?_
  obtain ⟨B, G, s, r, out, hT, bo, R, hf, qn, qr⟩ := h
  unfold PL.sFor at hf
  split at hf
  · cases hf
  · rename_i ds r1 ea
    refine ⟨B, G, s, r, ds, r1, hT, bo, R, ea, fun J H1 G1 R1 S1 W => ?_⟩
    refine ⟨fun i n σ H => n = ds.length - i ∧ i ≤ ds.length ∧ ∃ G' s' r', Rel X.prog X.w B O σ H G' s' r' ∧ Same G1 G' ∧ PL.forL g m (ds.drop i) s' r' = some out, ⟨ds.length, by simp, Nat.zero_le _, G1, s, r1, R1, Same.refl _, by simpa using hf⟩, ?_⟩
    rintro i n σ2 H2 ⟨rfl, hi, G2, s2, r2, R2, S2, hl⟩
    have SH : Same G1 H2 := fun b o h => R2.sub b o (S2 b o h)
    by_cases hlt : i < ds.length
    · refine .inr ⟨W.go i H2 SH hlt, fun σ H => ∃ G' s' r', Rel X.prog X.w B O σ H G' s' r' ∧ Same G1 G' ∧ PL.forL g m (ds.drop (i + 1)) s' r' = some out, fun σ' H' z => ⟨ds.length - (i + 1), by omega, rfl, hlt, z⟩, fun x H3 hy => ?_⟩
      obtain ⟨d, G3, hd, R3, S3, D3⟩ := W.turn S2 R2 bo hlt hy
      have ed : ds.drop i = d :: ds.drop (i + 1) := by
        rw [List.getElem?_eq_getElem hlt] at hd
        cases hd
        exact List.drop_eq_getElem_cons hlt
      rw [ed] at hl
      unfold PL.forL at hl
      split at hl
      · cases hl
      · rename_i s3 eg
        refine ⟨B, G3, s2, r2, d, s3, R3, D3, eg, fun σ3 R4 _ _ => ?_⟩
        split at hl
        · cases hl
        · rename_i s4 r4 em
          refine ⟨B, G3, s3, r2, _, hT, bo, R4, em, fun s5 r5 σ5 H5 G5 he R5 S5 => ?_, fun d s5 r5 O5 σ5 H5 G5 v he => nomatch he⟩
          cases he
          exact ⟨G5, _, _, R5, (S2.trans S3).trans S5, hl⟩
        · rename_i v4 r4 em
          cases hl
          refine ⟨B, G3, s3, r2, _, hT, bo, R4, em, fun s5 r5 σ5 H5 G5 he => (nomatch he), fun d s5 r5 O5 σ5 H5 G5 v he R5 S5 D5 => qr d s5 r5 O5 σ5 H5 G5 v he R5 ((S1.trans (S2.trans S3)).trans S5) D5⟩
    · have e : i = ds.length := by omega
      subst e
      rw [List.drop_length] at hl
      cases hl
      exact .inl ⟨W.stop _ H2 SH rfl, qn _ _ _ _ _ rfl R2 (S1.trans S2)⟩
theorem ds_while (i : Nat) (hp : PassesOwn (model X.prog X.w) X.A X.env X.xe) (hc : DT X T O e tt) (hb : DSs X T O O body m) : DS X T O O (.While e body [] pos) (PL.sWhile i tt m) := by
  refine psI (ps_while hp hc hb) fun D σ H h => ?_
  obtain ⟨B, G, s, r, out, hT, bo, R, hf, qn, qr⟩ := h
  unfold PL.sWhile at hf
  generalize PL.fuelOf s i = n at hf
  refine ⟨fun n σ H => ∃ G' s' r', Rel X.prog X.w B O σ H G' s' r' ∧ Same G G' ∧ PL.whileL tt m n s' r' = some out, ⟨n, G, s, r, R, Same.refl _, hf⟩, ?_⟩
  rintro n σ2 H2 ⟨G2, s2, r2, R2, S2, hl⟩
  cases n with
  | zero => cases hl
  | succ n =>
    unfold PL.whileL at hl
    split at hl
    · cases hl
    · rename_i r3 et
      cases hl
      refine ⟨B, G2, s2, r2, _, _, hT, bo, R2, et, fun H' G' R' S' => ?_⟩
      refine iteF ?_
      exact qn _ _ _ _ _ rfl R' (S2.trans S')
    · rename_i r3 et
      refine ⟨B, G2, s2, r2, _, _, hT, bo, R2, et, fun H' G' R' S' => ?_⟩
      refine iteT ?_
      refine ⟨fun σ H => ∃ G' s' r', Rel X.prog X.w B O σ H G' s' r' ∧ Same G G' ∧ PL.whileL tt m n s' r' = some out, fun σ' H' z => ⟨n, Nat.lt_succ_self _, z⟩, ?_⟩
      split at hl
      · cases hl
      · rename_i s4 r4 em
        refine ⟨B, G', s2, r3, _, hT, bo, R', em, fun s5 r5 σ5 H5 G5 he R5 S5 => ?_, fun d s5 r5 O5 σ5 H5 G5 v he => nomatch he⟩
        cases he
        exact ⟨G5, _, _, R5, (S2.trans S').trans S5, hl⟩
      · rename_i v4 r4 em
        cases hl
        exact ⟨B, G', s2, r3, _, hT, bo, R', em, fun s5 r5 σ5 H5 G5 he => (nomatch he), fun d s5 r5 O5 σ5 H5 G5 v he R5 S5 D5 => qr d s5 r5 O5 σ5 H5 G5 v he R5 ((S2.trans S').trans S5) D5⟩
end
end DL
end
section
set_option Elab.async false
set_option autoImplicit false
set_option linter.all false
set_option maxRecDepth 100000
set_option maxHeartbeats 1000000
/-! DL6: what a slot owns, read and changed in place; several names at once. -/
namespace DL
open PySem PySem.Spec PyProof.Rows L2

section
variable {P : Program} {w : World} {K : PySem.W.Frag} {B : Bs} {O : List Nat} {σ σ' : St} {H H' G G' : Hp} {s s' : PL.Sl} {r r' : PL.Row}
/-- the object that slot i owns is changed -/
theorem Rel.ownSet {i : Nat} {a : Addr} {d0 d : PL.D} {o : HO} (R : Rel P w B O σ H G s r) (bo : BOk K B) (hi : i ∈ O) (e : s[i]? = some (some d0)) (ha : σ[i]? = some (some (.ref a))) (h : OwnAt P w B.r0 (upd H a o) G a d) :
    Rel P w B O σ (upd H a o) G (s.set i (some d)) r := by
  obtain ⟨a', h1, g1, g2, g3, _⟩ := R.own i hi d0 e
  rw [ha] at h1
  cases h1
  obtain ⟨n1, n2⟩ := fresh_ne bo g2
  have hl : i < s.length := by
    rcases Nat.lt_or_ge i s.length with z | z
    · exact z
    · rw [List.getElem?_eq_none z] at e; cases e
  have hs : ∀ j, j ≠ i → (s.set i (some d))[j]? = s[j]? := fun j q => List.getElem?_set_ne (Ne.symm q)
  refine ⟨by simpa using R.len, fun b u hq => by rw [upd_ne (fun e => by rw [e, g1] at hq; cases hq)]; exact R.sub b u hq, R.g0,
    fun b u hq h1 h2 => by rw [upd_ne (fun e => by rw [e, g2] at hq; cases hq)]; exact R.k0 b u hq h1 h2, R.n0,
    ⟨R.row.1, by rw [upd_ne (fun e => n1 e.symm)]; exact R.row.2⟩,
    fun q hq => by obtain ⟨ps, e, t⟩ := R.tab q hq; exact ⟨ps, by rw [upd_ne (fun z => n2 (by rw [← z]; exact hq))]; exact e, t⟩,
    fun b u hq => ⟨by rw [upd_ne (fun e => by rw [e, g3] at hq; cases hq)]; exact (R.tmp b u hq).1, (R.tmp b u hq).2⟩, fun j d1 hj hd => ?_, fun j hj d1 hd => ?_, fun j k d1 d2 b hj hk e1 e2 e3 e4 => ?_⟩
  · rw [hs j (fun z => hj (z ▸ hi))] at hd
    exact R.pub j d1 hj hd
  · by_cases q : j = i
    · subst q
      rw [List.getElem?_set_self hl] at hd
      cases hd
      exact ⟨a, ha, g1, g2, g3, h⟩
    · rw [hs j q] at hd
      obtain ⟨b, f1, f2, f3, f4, f5⟩ := R.own j hj d1 hd
      have ne : b ≠ a := fun z => by subst z; exact q (R.inj j i d1 d0 b hj hi hd e f1 ha)
      exact ⟨b, f1, f2, f3, f4, f5.mono (by rw [upd_ne ne]) (Same.refl _)⟩
  · have back : ∀ j d1, (s.set i (some d))[j]? = some (some d1) → ∃ d2, s[j]? = some (some d2) := fun j d1 hd => by
      by_cases q : j = i
      · subst q; exact ⟨d0, e⟩
      · rw [hs j q] at hd; exact ⟨d1, hd⟩
    obtain ⟨d3, e1⟩ := back j d1 e1
    obtain ⟨d4, e2⟩ := back k d2 e2
    exact R.inj j k d3 d4 b hj hk e1 e2 e3 e4
theorem valV_get {r0 : Addr} {k : Int} : ∀ {kvs : List (Key × V)} {es : List (Int × PL.D)}, DvI P w r0 G kvs es → ∀ d, PL.getI es k = some d → ∃ v, valV kvs (.inl k) = some v ∧ Dv P w r0 G v d
  | _, _, .nil, d, h => by cases h
  | _, _, .cons (k := k1) (v := v) (d := d1) (r := r) (s := s) a1 a2, d, h => by
    unfold PL.getI at h
    rw [List.find?_cons] at h
    cases q : (k1 == k) with
    | true =>
      dsimp only at h
      rw [q] at h
      cases h
      have e : k1 = k := by simpa using q
      subst e
      exact ⟨v, valV_pos rfl, a1⟩
    | false =>
      dsimp only at h
      rw [q] at h
      have e : k1 ≠ k := by simpa using q
      obtain ⟨v', h1, h2⟩ := valV_get a2 d h
      exact ⟨v', by rw [valV_neg (fun z => e (Sum.inl.inj z))]; exact h1, h2⟩
theorem dvi_any {r0 : Addr} {k : Int} : ∀ {kvs : List (Key × V)} {es : List (Int × PL.D)}, DvI P w r0 G kvs es → (kvs.any fun kv => decide (kv.1 = .inl k)) = es.any fun p => p.1 == k
  | _, _, .nil => rfl
  | _, _, .cons (k := k1) a1 a2 => by
    rw [List.any_cons, List.any_cons, dvi_any a2]
    have e : decide ((Sum.inl k1 : Key) = .inl k) = (k1 == k) := by
      by_cases q : k1 = k
      · subst q; simp
      · rw [decide_eq_false (fun z => q (Sum.inl.inj z))]; simp [q]
    dsimp only
    rw [e]
theorem dvi_map {r0 : Addr} {k : Int} {v : V} {d : PL.D} (hv : Dv P w r0 G v d) : ∀ {kvs : List (Key × V)} {es : List (Int × PL.D)}, DvI P w r0 G kvs es →
    DvI P w r0 G (kvs.map fun kv => if kv.1 = .inl k then (kv.1, v) else kv) (es.map fun p => if (p.1 == k) = true then (p.1, d) else p)
  | _, _, .nil => .nil
  | _, _, .cons (k := k1) a1 a2 => by
    rw [List.map_cons, List.map_cons]
    by_cases q : k1 = k
    · subst q
      simp only [beq_self_eq_true, if_true]
      exact .cons hv (dvi_map hv a2)
    · rw [if_neg (fun z => q (Sum.inl.inj z)), if_neg (by simpa using q)]
      exact .cons a1 (dvi_map hv a2)
theorem dvi_app {r0 : Addr} {k : Int} {v : V} {d : PL.D} (hv : Dv P w r0 G v d) : ∀ {kvs : List (Key × V)} {es : List (Int × PL.D)}, DvI P w r0 G kvs es → DvI P w r0 G (kvs ++ [(.inl k, v)]) (es ++ [(k, d)])
  | _, _, .nil => .cons hv .nil
  | _, _, .cons a1 a2 => .cons a1 (dvi_app hv a2)
theorem dvi_put {r0 : Addr} {k : Int} {v : V} {d : PL.D} {kvs : List (Key × V)} {es : List (Int × PL.D)} (hv : Dv P w r0 G v d) (h : DvI P w r0 G kvs es) : DvI P w r0 G (putK kvs (.inl k) v) (PL.putI es k d) := by
  unfold putK PL.putI
  rw [dvi_any h]
  by_cases q : (es.any fun p => p.1 == k) = true
  · rw [if_pos q, if_pos q]; exact dvi_map hv h
  · rw [if_neg q, if_neg q]; exact dvi_app hv h
theorem evar {i : Nat} {s : PL.Sl} {r r' : PL.Row} {d : PL.D} (h : PL.eVar i s r = some (d, r')) : s[i]? = some (some d) ∧ r' = r := by
  unfold PL.eVar at h
  split at h
  · rename_i e
    cases h
    exact ⟨e, rfl⟩
  · cases h
end

section
variable {X : Cx} {T : List Addr} {O O1 O' vs : List Nat} {a b e k : Expr} {pos p apos cpos : Pos} {fa fb fk f : PL.Ex}
/-! ### reading -/
theorem de_ixO (i : Nat) {x : Str} (hb : DE X T O b fb) (hi : i ∈ O := by decide) (hN : X.N[i]? = some x := by rfl) (hv : Vis X.env.scope x := by first | exact Or.inl rfl | exact Or.inr (Or.inl rfl) | exact Or.inr (Or.inr rfl))
    (hd : (x == ("__debug__" : Str)) = false := by decide) (hcd : (x == ("__classdict__" : Str)) = false := by decide) (hp : PlainIx b := by exact fun _ _ => rfl) : DE X T O (.Subscript (.Name x p) b pos) (PL.eBin PL.oIx (PL.eVar i) fb) := by
  refine peI (pe_ix ix_list (pe_var hN hv hd hcd) hb hp) fun σ H Q hq => ?_
  obtain ⟨B, G, s, r, d, r', hT, bo, R, hf, q⟩ := hq
  obtain ⟨x1, r1, y, ea, eb, ef⟩ := bin_some hf
  obtain ⟨es, rfl⟩ := evar ea
  obtain ⟨a1, h1, h2, h3, h4, h5⟩ := R.own i hi _ es
  refine ⟨.ref a1, h1, B, G, s, _, y, r', hT, bo, R, eb, fun v H' G' R' S' D' => ?_⟩
  obtain ⟨a2, g1, g2, g3, g4, g5⟩ := R'.own i hi _ es
  rw [h1] at g1
  cases g1
  cases x1 with
  | lst ds =>
    cases y with
    | int z =>
      cases D'
      obtain ⟨xs, k1, k2⟩ := g5
      have ef : (match PL.ixOf ds.length z with | some j => ds[j]? | none => none) = some d := ef
      split at ef
      · rename_i j ej
        obtain ⟨v1, k3, k4⟩ := k2.get ef
        exact ⟨a1, xs, z, v1, rfl, rfl, .inl (.inl k1), ix_at (by rw [k2.length]; exact ej) k3, q v1 H' G' R' S' k4⟩
      · cases ef
    | _ => cases ef
  | _ => first | (exact g5.elim) | (cases ef)
theorem dc_inO (i : Nat) {x : Str} (ha : DE X T O a fa) (hi : i ∈ O := by decide) (hN : X.N[i]? = some x := by rfl) (hv : Vis X.env.scope x := by first | exact Or.inl rfl | exact Or.inr (Or.inl rfl) | exact Or.inr (Or.inr rfl))
    (hd : (x == ("__debug__" : Str)) = false := by decide) (hcd : (x == ("__classdict__" : Str)) = false := by decide) (hm : behindInMarks .In (.Name x p) = false := by rfl) : DC X T O (.Compare a [.In] [.Name x p] pos) (PL.eBin PL.oIn fa (PL.eVar i)) := by
  refine cmp_of (o := PL.oIn) op_in_seq ha (pe_var hN hv hd hcd) hm fun σ H Q hq => ?_
  obtain ⟨B, G, s, r, d, r', hT, bo, R, hf, q⟩ := hq
  obtain ⟨x1, r1, y, ea, eb, ef⟩ := bin_some hf
  refine ⟨B, G, s, r, x1, r1, hT, bo, R, ea, fun v H' G' R' S' D' => ?_⟩
  obtain ⟨es, rfl⟩ := evar eb
  obtain ⟨a1, h1, h2, h3, h4, h5⟩ := R'.own i hi _ es
  refine ⟨.ref a1, h1, ?_⟩
  cases y with
  | lst ds =>
    obtain ⟨xs, k1, k2⟩ := h5
    have ef : (if (x1.flat && ds.all PL.D.flat) = true then some (PL.D.bl (ds.any fun y => y.beq x1)) else none) = some d := ef
    split at ef
    · rename_i hfl
      cases ef
      obtain ⟨f1, f2⟩ := (Bool.and_eq_true _ _).mp hfl
      have e1 := inV_any D' f1 k2 f2
      refine ⟨a1, xs, rfl, .inl (SqL.of k1), dv_flat D' f1, flats k2 f2, ?_⟩
      rw [if_neg Bool.false_ne_true, e1]
      exact q _ H' G' R' S' (.bl _)
    · cases ef
  | _ => first | (exact h5.elim) | (cases ef)
theorem dc_notInO (i : Nat) {x : Str} (ha : DE X T O a fa) (hi : i ∈ O := by decide) (hN : X.N[i]? = some x := by rfl) (hv : Vis X.env.scope x := by first | exact Or.inl rfl | exact Or.inr (Or.inl rfl) | exact Or.inr (Or.inr rfl))
    (hd : (x == ("__debug__" : Str)) = false := by decide) (hcd : (x == ("__classdict__" : Str)) = false := by decide) (hm : behindInMarks .NotIn (.Name x p) = false := by rfl) : DC X T O (.Compare a [.NotIn] [.Name x p] pos) (PL.eBin PL.oNotIn fa (PL.eVar i)) := by
  refine cmp_of (o := PL.oIn) op_notIn_seq ha (pe_var hN hv hd hcd) hm fun σ H Q hq => ?_
  obtain ⟨B, G, s, r, d, r', hT, bo, R, hf, q⟩ := hq
  obtain ⟨x1, r1, y, ea, eb, ef⟩ := bin_some hf
  refine ⟨B, G, s, r, x1, r1, hT, bo, R, ea, fun v H' G' R' S' D' => ?_⟩
  obtain ⟨es, rfl⟩ := evar eb
  obtain ⟨a1, h1, h2, h3, h4, h5⟩ := R'.own i hi _ es
  refine ⟨.ref a1, h1, ?_⟩
  cases y with
  | lst ds =>
    obtain ⟨xs, k1, k2⟩ := h5
    have ef : (if (x1.flat && ds.all PL.D.flat) = true then some (PL.D.bl (!ds.any fun y => y.beq x1)) else none) = some d := ef
    split at ef
    · rename_i hfl
      cases ef
      obtain ⟨f1, f2⟩ := (Bool.and_eq_true _ _).mp hfl
      have e1 := inV_any D' f1 k2 f2
      refine ⟨a1, xs, rfl, .inl (SqL.of k1), dv_flat D' f1, flats k2 f2, ?_⟩
      rw [if_pos rfl, e1]
      exact q _ H' G' R' S' (.bl _)
    · cases ef
  | _ => first | (exact h5.elim) | (cases ef)
theorem de_getIO (i : Nat) {x : Str} (hu : X.A.units + 1 < cLine) (hb : DE X T O b fb) (hi : i ∈ O := by decide) (hN : X.N[i]? = some x := by rfl) (hv : Vis X.env.scope x := by first | exact Or.inl rfl | exact Or.inr (Or.inl rfl) | exact Or.inr (Or.inr rfl))
    (hd : (x == ("__debug__" : Str)) = false := by decide) (hcd : (x == ("__classdict__" : Str)) = false := by decide) (hs : NoSl b := by exact fun _ _ => rfl) : DE X T O (.Subscript (.Name x p) b pos) (PL.eBin PL.oGetI (PL.eVar i) fb) := by
  refine peI (pe_dget hu (pe_var hN hv hd hcd) hb hs) fun σ H Q hq => ?_
  obtain ⟨B, G, s, r, d, r', hT, bo, R, hf, q⟩ := hq
  obtain ⟨x1, r1, y, ea, eb, ef⟩ := bin_some hf
  obtain ⟨es, rfl⟩ := evar ea
  obtain ⟨a1, h1, h2, h3, h4, h5⟩ := R.own i hi _ es
  refine ⟨.ref a1, h1, B, G, s, _, y, r', hT, bo, R, eb, fun v H' G' R' S' D' => ?_⟩
  obtain ⟨a2, g1, g2, g3, g4, g5⟩ := R'.own i hi _ es
  rw [h1] at g1
  cases g1
  cases x1 with
  | dki es =>
    cases y with
    | int z =>
      cases D'
      obtain ⟨kvs, k1, k2⟩ := g5
      obtain ⟨v1, k3, k4⟩ := valV_get k2 d ef
      exact ⟨a1, v1, rfl, .inl ⟨kvs, .inl z, .inl k1, rfl, k3.symm⟩, q v1 H' G' R' S' k4⟩
    | _ => cases ef
  | _ => first | (exact g5.elim) | (cases ef)
/-! ### in place -/
theorem ds_app (i : Nat) {x : Str} {p1 : Pos} (he : DE X T O e f) (hi : i ∈ O := by decide) (hN : X.N[i]? = some x := by rfl) (hv : Vis X.env.scope x := by first | exact Or.inl rfl | exact Or.inr (Or.inl rfl) | exact Or.inr (Or.inr rfl))
    (hd : (x == ("__debug__" : Str)) = false := by decide) (hcd : (x == ("__classdict__" : Str)) = false := by decide)
    (hbase : attributeBase (.Name x p1) "append" X.env (eval (.Name x p1) X.env) = eval (.Name x p1) X.env := by rfl)
    (hfew : ((backTo cpos (starEach [e] X.env)).all (fun x => !x.1) && (backToKw cpos (keywordEach [] X.env)).all (fun x => x.1.isSome)
      && decide ([e].length + ([] : List Keyword).length + (if ([] : List Keyword).isEmpty then 0 else 1) < 30)) = true := by rfl)
    (hline : (apos.endLine == cpos.line) = true := by rfl) (hs : starEach [e] X.env = (false, eval e X.env) :: starEach [] X.env := by rfl) (hplain : (backTo cpos (starEach [] X.env)).any (·.1) = false := by rfl)
    (hw : swapsWith (.Call (.Attribute (.Name x p1) "append" apos) [e] [] cpos) none pos.line X.env = pure false := by rfl) :
    DS X T O O (.Expr (.Call (.Attribute (.Name x p1) "append" apos) [e] [] cpos) pos) (PL.sApp i f) := by
  refine psI (ps_expr (pe_bm PySem.F.plainAttrs_list PySem.F.slot_list_append PySem.F.type_list_append mt_append (pe_var hN hv hd hcd) (pa_cons he pa_nil hs) hbase hfew hline hs hplain) hw) fun D σ H h => ?_
  obtain ⟨B, G, s, r, out, hT, bo, R, hf, qn, qr⟩ := h
  unfold PL.sApp at hf
  split at hf
  · rename_i ds es
    split at hf
    · cases hf
    · rename_i d r1 ea
      split at hf
      · rename_i hl
        cases hf
        obtain ⟨a1, h1, h2, h3, h4, xs0, h5, h6⟩ := R.own i hi _ es
        refine ⟨.ref a1, h1, .inl ⟨rfl, xs0, .inl (.inl h5)⟩, B, G, s, r, d, r1, hT, bo, R, ea, fun v H' G' R' S' D' => ?_⟩
        obtain ⟨a2, g1, g2, g3, g4, xs, g5, g6⟩ := R'.own i hi _ es
        rw [h1] at g1
        cases g1
        have le := g6.length
        have lz := len1000
        refine ⟨a1, xs, v, rfl, rfl, g5, by omega, qn _ _ _ _ _ rfl (R'.ownSet bo hi es h1 ⟨xs ++ [v], upd_same, g6.append (.cons D' .nil)⟩) S'⟩
      · cases hf
  · cases hf
theorem ds_setIx (i : Nat) {x : Str} {p1 : Pos} (he : DE X T O e f) (hk : DE X T O k fk) (hi : i ∈ O := by decide) (hN : X.N[i]? = some x := by rfl) (hv : Vis X.env.scope x := by first | exact Or.inl rfl | exact Or.inr (Or.inl rfl) | exact Or.inr (Or.inr rfl))
    (hd : (x == ("__debug__" : Str)) = false := by decide) (hcd : (x == ("__classdict__" : Str)) = false := by decide)
    (ha : ∀ v, assign (.Subscript (.Name x p1) k p) X.env v = (do
      let ov ← holding [v] (eval (.Name x p1) X.env)
      let iv ← holding [v, ov] (eval k X.env)
      standAt p
      holding [v, ov, iv] (setItem ov iv v)
      release [v, ov, iv] []) := by intro _; rfl)
    (hs : swapsWithSole [.Subscript (.Name x p1) k p] e pos.line X.env = pure false := by rfl) (hw : swappedStores [.Subscript (.Name x p1) k p] e X.env = pure none := by rfl)
    (h1 : (assignEach [.Subscript (.Name x p1) k p] X.env).map (·.2) = [assign (.Subscript (.Name x p1) k p) X.env] := by rfl) :
    DS X T O O (.Assign [.Subscript (.Name x p1) k p] e pos) (PL.sSetIx i fk f) := by
  refine psI (ps_asg he (pg_sub (pe_var hN hv hd hcd) hk set_list ha) hs hw h1) fun D σ H h => ?_
  obtain ⟨B, G, s, r, out, hT, bo, R, hf, qn, qr⟩ := h
  unfold PL.sSetIx at hf
  split at hf
  · cases hf
  · rename_i d r1 ea
    split at hf
    · rename_i z r2 ek
      split at hf
      · rename_i ds es
        split at hf
        · rename_i j ej
          cases hf
          refine ⟨B, G, s, r, d, r1, hT, bo, R, ea, fun v H1 G1 R1 S1 D1 => ?_⟩
          obtain ⟨a1, h1, h2, h3, h4, h5⟩ := R1.own i hi _ es
          refine ⟨.ref a1, h1, B, G1, s, r1, _, r2, hT, bo, R1, ek, fun v2 H2 G2 R2 S2 D2 => ?_⟩
          cases D2
          obtain ⟨a2, g1, g2, g3, g4, xs, g5, g6⟩ := R2.own i hi _ es
          rw [h1] at g1
          cases g1
          exact ⟨a1, xs, z, j, rfl, rfl, g5, by rw [g6.length]; exact ej, qn _ _ _ _ _ rfl (R2.ownSet bo hi es h1 ⟨xs.set j v, upd_same, DvA.set (D1.mono S2) j g6⟩) (S1.trans S2)⟩
        · cases hf
      · cases hf
    · cases hf
theorem ds_putI (i : Nat) {x : Str} {p1 : Pos} (hu : X.A.units + 1 < cLine) (he : DE X T O e f) (hk : DE X T O k fk) (hi : i ∈ O := by decide) (hN : X.N[i]? = some x := by rfl) (hv : Vis X.env.scope x := by first | exact Or.inl rfl | exact Or.inr (Or.inl rfl) | exact Or.inr (Or.inr rfl))
    (hd : (x == ("__debug__" : Str)) = false := by decide) (hcd : (x == ("__classdict__" : Str)) = false := by decide)
    (hs : swapsWith e (some (.Subscript (.Name x p1) k p)) pos.line X.env = pure false := by rfl) : DS X T O O (.Assign [.Subscript (.Name x p1) k p] e pos) (PL.sPutI i fk f) := by
  refine psI (ps_dput hu (pe_var hN hv hd hcd) hk he hs) fun D σ H h => ?_
  obtain ⟨B, G, s, r, out, hT, bo, R, hf, qn, qr⟩ := h
  unfold PL.sPutI at hf
  split at hf
  · cases hf
  · rename_i d r1 ea
    split at hf
    · rename_i z r2 ek
      split at hf
      · rename_i es0 es
        split at hf
        · rename_i hl
          cases hf
          refine ⟨B, G, s, r, d, r1, hT, bo, R, ea, fun v H1 G1 R1 S1 D1 => ?_⟩
          obtain ⟨a1, h1, h2, h3, h4, h5⟩ := R1.own i hi _ es
          refine ⟨.ref a1, h1, B, G1, s, r1, _, r2, hT, bo, R1, ek, fun v2 H2 G2 R2 S2 D2 => ?_⟩
          cases D2
          obtain ⟨a2, g1, g2, g3, g4, kvs, g5, g6⟩ := R2.own i hi _ es
          rw [h1] at g1
          cases g1
          have le := g6.length
          have lz := len1000
          exact ⟨a1, _, rfl, DPut.k (k := .inl z) g5 (by omega), qn _ _ _ _ _ rfl (R2.ownSet bo hi es h1 ⟨_, upd_same, dvi_put (D1.mono S2) g6⟩) (S1.trans S2)⟩
        · cases hf
      · cases hf
    · cases hf
/-- a dict whose keys are nested tuples: a[b] = v -/
def rSetD (P : Program) (w : World) : TSet := fun o i v H Q => ∃ p b ob xs k, o = .ref p ∧ i = .ref b ∧ H p = some (exact p ob) ∧ DObj P w ob xs ∧ NKs P w H xs ∧ NK P w H b k ∧ xs.length < 1000 ∧
  ∀ ob' u, RelV v u → ob'.ExactDict → (∃ es ep, ob'.data = .dict es ep ∧ es.toList = (storedH xs k b u).map (entryOfKey (nestedKind P w))) → Q (upd H p (exact p ob'))
theorem set_dictH (hu : X.A.units + 9 < cLine) : PSet X (rSetD X.prog X.w) := by
  intro pins s σ H o i v ov iv u Q I ro ri rv h
  obtain ⟨p, b, ob, xs, k, rfl, rfl, hp, ho, nk, nb, hl, q⟩ := h
  obtain rfl : ov = Value.ref p := ro
  obtain rfl : iv = Value.ref b := ri
  have Dt := dictOf I hp ho nk
  have lz := len1000
  refine wpAny_setItem_heap (knd := nestedKind X.prog X.w) (by show X.A.units + 1 + 8 < cLine; omega) (nb _ I.hok) Dt (fun h' dd sb => ?_) (by omega)
  obtain ⟨o', es, ep, g1, g2, g3, g4, g5, g6⟩ := dd
  refine ⟨upd H p (exact p o'), ?_, q o' u rv g2 ⟨es, ep, g3, g4⟩⟩
  exact I.write (x := p) (e := p) (by rw [hp]; trivial) (.inl rfl) (fun c y hc e => (sb.2 c hc).trans e) ⟨o', g1⟩ ⟨g1, ⟨o', g1⟩, fun h1 h2 a1 b1 => b1 o' a1⟩
theorem ds_put (i : Nat) {x : Str} {p1 : Pos} (hu : X.A.units + 9 < cLine) (he : DE X T O e f) (hk : DE X T O k fk) (hi : i ∈ O := by decide) (hN : X.N[i]? = some x := by rfl) (hv : Vis X.env.scope x := by first | exact Or.inl rfl | exact Or.inr (Or.inl rfl) | exact Or.inr (Or.inr rfl))
    (hd : (x == ("__debug__" : Str)) = false := by decide) (hcd : (x == ("__classdict__" : Str)) = false := by decide)
    (ha : ∀ v, assign (.Subscript (.Name x p1) k p) X.env v = (do
      let ov ← holding [v] (eval (.Name x p1) X.env)
      let iv ← holding [v, ov] (eval k X.env)
      standAt p
      holding [v, ov, iv] (setItem ov iv v)
      release [v, ov, iv] []) := by intro _; rfl)
    (hs : swapsWithSole [.Subscript (.Name x p1) k p] e pos.line X.env = pure false := by rfl) (hw : swappedStores [.Subscript (.Name x p1) k p] e X.env = pure none := by rfl)
    (h1 : (assignEach [.Subscript (.Name x p1) k p] X.env).map (·.2) = [assign (.Subscript (.Name x p1) k p) X.env] := by rfl) :
    DS X T O O (.Assign [.Subscript (.Name x p1) k p] e pos) (PL.sPut i fk f) := by
  refine psI (ps_asg he (pg_sub (pe_var hN hv hd hcd) hk (set_dictH hu) ha) hs hw h1) fun D σ H h => ?_
  obtain ⟨B, G, s, r, out, hT, bo, R, hf, qn, qr⟩ := h
  unfold PL.sPut at hf
  split at hf
  · cases hf
  · rename_i d r1 ea
    split at hf
    · cases hf
    · rename_i x2 r2 ek
      split at hf
      · rename_i kvs es
        split at hf
        · rename_i hl
          cases hf
          refine ⟨B, G, s, r, d, r1, hT, bo, R, ea, fun v H1 G1 R1 S1 D1 => ?_⟩
          obtain ⟨a1, h1, h2, h3, h4, h5⟩ := R1.own i hi _ es
          refine ⟨.ref a1, h1, B, G1, s, r1, _, r2, hT, bo, R1, ek, fun v2 H2 G2 R2 S2 D2 => ?_⟩
          obtain ⟨b1, rfl⟩ := keyT_ref hl.1 D2
          obtain ⟨a2, g1, g2, g3, g4, o, xs, g5, g6, g7, g8⟩ := R2.own i hi _ es
          rw [h1] at g1
          cases g1
          have hln := dvt_length g8
          refine ⟨a1, b1, o, xs, key x2, rfl, rfl, g5, g7, nks_of R2.sub g8, nk_of R2.sub (keyT_ok hl.1) D2, by omega, fun ob' u ru e1 e2 => ?_⟩
          obtain ⟨m1, m2, m3⟩ := dvt_stored D2 (keyT_ok hl.1) ru (D1.mono S2) g8 g7.2.2.1
          exact qn _ _ _ _ _ rfl (R2.ownSet bo hi es h1 ⟨ob', _, upd_same, g6, ⟨e1, e2, m3, by omega⟩, m1⟩) (S1.trans S2)
        · cases hf
      · cases hf
end

/-! ### several names at once -/
def setAllV : List Nat → List V → St → Option St
  | [], [], σ => some σ
  | i :: is, v :: vs, σ => setAllV is vs (σ.set i (some v))
  | _, _, _ => none
def tParN (is : List Nat) (ta : TA) : TS := fun D σ H => ta σ H fun vs H1 => vs.length ≤ sizeLine ∧ ∃ σ', setAllV is vs σ = some σ' ∧ D.nx σ' H1 ∧ ∀ p, H1 p = none → D.nx σ' (upd H1 p (.tup vs))
def MonoA (ta : TA) : Prop := ∀ σ H Q Q', (∀ vs H, Q vs H → Q' vs H) → ta σ H Q → ta σ H Q'
def gSetAll (is : List Nat) : TGs := fun vs σ H Q => ∃ σ', setAllV is vs σ = some σ' ∧ Q σ' H
/-- plain data, but for the place k: a fresh object -/
inductive DvAo (P : Program) (w : World) (B : Bs) (O : List Nat) (σ : St) (s : PL.Sl) (H G : Hp) : Nat → List V → List PL.D → Prop
  | own {a : Addr} {d : PL.D} {vs : List V} {ds : List PL.D} : Fresh B O σ s G a → OwnAt P w B.r0 H G a d → DvA P w B.r0 G vs ds → DvAo P w B O σ s H G 0 (.ref a :: vs) (d :: ds)
  | skip {k : Nat} {v : V} {d : PL.D} {vs : List V} {ds : List PL.D} : Dv P w B.r0 G v d → DvAo P w B O σ s H G k vs ds → DvAo P w B O σ s H G (k + 1) (v :: vs) (d :: ds)
def tAo (P : Program) (w : World) (K : PySem.W.Frag) (T : List Addr) (O : List Nat) (k : Nat) (f : PL.Ar) : TA := fun σ H Q =>
  ∃ (B : Bs) (G : Hp) (s : PL.Sl) (r : PL.Row) (ds : List PL.D) (r' : PL.Row), B.tabs = T ∧ BOk K B ∧ Rel P w B O σ H G s r ∧ f s r = some (ds, r') ∧
    ∀ vs H' G', Rel P w B O σ H' G' s r' → Same G G' → DvAo P w B O σ s H' G' k vs ds → Q vs H'
abbrev DAo (X : Cx) (T : List Addr) (O : List Nat) (k : Nat) (es : List Expr) (f : PL.Ar) : Prop := PA X es (tAo X.prog X.w X.K T O k f)
theorem mono_tA {P : Program} {w : World} {K : PySem.W.Frag} {T : List Addr} {O : List Nat} {f : PL.Ar} : MonoA (tA P w K T O f) := fun σ H Q Q' hi ⟨B, G, s, r, ds, r', h1, h2, h3, h4, q⟩ =>
  ⟨B, G, s, r, ds, r', h1, h2, h3, h4, fun vs H' G' R S D => hi _ _ (q vs H' G' R S D)⟩
theorem mono_tAo {P : Program} {w : World} {K : PySem.W.Frag} {T : List Addr} {O : List Nat} {k : Nat} {f : PL.Ar} : MonoA (tAo P w K T O k f) := fun σ H Q Q' hi ⟨B, G, s, r, ds, r', h1, h2, h3, h4, q⟩ =>
  ⟨B, G, s, r, ds, r', h1, h2, h3, h4, fun vs H' G' R S D => hi _ _ (q vs H' G' R S D)⟩
theorem aCons_some {a : PL.Ex} {as : PL.Ar} {s : PL.Sl} {r r' : PL.Row} {ds : List PL.D} (h : PL.aCons a as s r = some (ds, r')) : ∃ d r1 es, a s r = some (d, r1) ∧ as s r1 = some (es, r') ∧ ds = d :: es := by
  unfold PL.aCons at h
  split at h
  · cases h
  · rename_i x r1 ea
    split at h
    · cases h
    · rename_i xs r2 eb
      cases h
      exact ⟨x, r1, xs, ea, eb, rfl⟩
section
variable {X : Cx} {T : List Addr} {O O1 O' is : List Nat} {a b c e : Expr} {es ts : List Expr} {pos : Pos} {fa fb fk f : PL.Ex} {ta : TA} {ra : PL.Ar} {st : Stmt} {i j l k : Nat}
theorem da_own (ha : DF X T O a fa) (hr : DA X T O es ra) (hs : starEach (a :: es) X.env = (false, eval a X.env) :: starEach es X.env := by rfl) : DAo X T O 0 (a :: es) (PL.aCons fa ra) := by
  refine paI (pa_cons ha hr hs) fun σ H Q hq => ?_
  obtain ⟨B, G, s, r, ds, r', hT, bo, R, hf, q⟩ := hq
  obtain ⟨d, r1, es, e1, e2, rfl⟩ := aCons_some hf
  refine ⟨B, G, s, r, d, r1, hT, bo, R, e1, fun p H1 G1 R1 S1 F1 W1 => ?_⟩
  obtain ⟨o, ho, _⟩ := own_dv W1
  refine ⟨B.put p o, G1, s, r1, es, r', hT, bo.put F1.2.1, R1.put F1 ho, e2, fun vs H2 G2 R2 S2 D2 => ?_⟩
  obtain ⟨R3, F3, ho2⟩ := R2.unput F1.2.1 F1.2.2.1
  exact q _ H2 G2 R3 (S1.trans S2) (.own F3 (W1.mono (by rw [ho, ho2]) S2) D2)
theorem da_skip (ha : DE X T O a fa) (hr : DAo X T O k es ra) (hs : starEach (a :: es) X.env = (false, eval a X.env) :: starEach es X.env := by rfl) : DAo X T O (k + 1) (a :: es) (PL.aCons fa ra) := by
  refine paI (pa_cons ha hr hs) fun σ H Q hq => ?_
  obtain ⟨B, G, s, r, ds, r', hT, bo, R, hf, q⟩ := hq
  obtain ⟨d, r1, es, e1, e2, rfl⟩ := aCons_some hf
  refine ⟨B, G, s, r, d, r1, hT, bo, R, e1, fun v H1 G1 R1 S1 D1 => ⟨B, G1, s, r1, es, r', hT, bo, R1, e2, fun vs H2 G2 R2 S2 D2 => ?_⟩⟩
  exact q _ H2 G2 R2 (S1.trans S2) (.skip (D1.mono S2) D2)
theorem DvAo.length {P : Program} {w : World} {B : Bs} {σ : St} {s : PL.Sl} {H G : Hp} : ∀ {k : Nat} {vs : List V} {ds : List PL.D}, DvAo P w B O σ s H G k vs ds → vs.length = ds.length
  | _, _, _, .own _ _ h => by simp [h.length]
  | _, _, _, .skip _ h => by simp [h.length]
theorem set_two {vs : List V} {σ σ' : St} (h : setAllV [i, j] vs σ = some σ') : ∃ v w, vs = [v, w] ∧ σ' = (σ.set i (some v)).set j (some w) := by
  match vs, h with
  | [v, w], h => cases h; exact ⟨v, w, rfl, rfl⟩
theorem set_three {vs : List V} {σ σ' : St} (h : setAllV [i, j, l] vs σ = some σ') : ∃ u v w, vs = [u, v, w] ∧ σ' = ((σ.set i (some u)).set j (some v)).set l (some w) := by
  match vs, h with
  | [u, v, w], h => cases h; exact ⟨u, v, w, rfl, rfl⟩
theorem parN2 {x y : Str} {px py pt : Pos} {kt k2 pt2} (hc : X.calm = true) (hN : X.N.Nodup) (hM : MonoA ta) (ha : PA X [a, b] ta) (hi : X.N[i]? = some x := by rfl) (hj : X.N[j]? = some y := by rfl) (hij : i ≠ j := by decide)
    (hx : X.env.scope.names.lookup x = some .local := by rfl) (hy : X.env.scope.names.lookup y = some .local := by rfl)
    (hw : swappedStores [.Tuple [.Name x px, .Name y py] kt pt] (.Tuple [a, b] k2 pt2) X.env = pure (some [x, y]) := by rfl)
    (hs : swapsWithSole [.Tuple [.Name x px, .Name y py] kt pt] (.Tuple [a, b] k2 pt2) pos.line X.env = pure false := by rfl) :
    PS X (.Assign [.Tuple [.Name x px, .Name y py] kt pt] (.Tuple [a, b] k2 pt2) pos) (tParN [i, j] ta) :=
  psI (ps_par (i := i) (j := j) hc hN hi hj hij hx hy ha hw hs) fun D σ H h => hM σ H _ _ (fun vs H1 ⟨_, σ', e, q, _⟩ => by
    obtain ⟨v, w, rfl, rfl⟩ := set_two e
    exact ⟨v, w, rfl, q⟩) h
theorem parN3 {x y z : Str} {px py pz pt : Pos} {kt k2 pt2} (hc : X.calm = true) (hN : X.N.Nodup) (hM : MonoA ta) (ha : PA X [a, b, c] ta) (hi : X.N[i]? = some x := by rfl) (hj : X.N[j]? = some y := by rfl) (hl : X.N[l]? = some z := by rfl) (hij : i ≠ j := by decide) (hil : i ≠ l := by decide) (hjl : j ≠ l := by decide)
    (hx : X.env.scope.names.lookup x = some .local := by rfl) (hy : X.env.scope.names.lookup y = some .local := by rfl) (hz : X.env.scope.names.lookup z = some .local := by rfl)
    (hw : swappedStores [.Tuple [.Name x px, .Name y py, .Name z pz] kt pt] (.Tuple [a, b, c] k2 pt2) X.env = pure (some [x, y, z]) := by rfl)
    (hs : swapsWithSole [.Tuple [.Name x px, .Name y py, .Name z pz] kt pt] (.Tuple [a, b, c] k2 pt2) pos.line X.env = pure false := by rfl) :
    PS X (.Assign [.Tuple [.Name x px, .Name y py, .Name z pz] kt pt] (.Tuple [a, b, c] k2 pt2) pos) (tParN [i, j, l] ta) :=
  psI (ps_par3 (i := i) (j := j) (l := l) hc hN hi hj hl hij hil hjl hx hy hz ha hw hs) fun D σ H h => hM σ H _ _ (fun vs H1 ⟨_, σ', e, q, _⟩ => by
    obtain ⟨u, v, w, rfl, rfl⟩ := set_three e
    exact ⟨u, v, w, rfl, q⟩) h
theorem gsa_nil : PGs X [] (gSetAll []) := pgsI pgs_nil fun vs σ H Q ⟨σ', e, q⟩ => by
  match vs, e with
  | [], e => cases e; exact ⟨rfl, q⟩
theorem gsa_cons {x : Str} (hN : X.N.Nodup) (h : PGs X ts (gSetAll is)) (hi : X.N[i]? = some x := by rfl) (hx : Loc X.env.scope x := by first | exact Or.inl rfl | exact Or.inr rfl)
    (hs : (assignEach (.Name x pos :: ts) X.env).map (·.2) = assign (.Name x pos) X.env :: (assignEach ts X.env).map (·.2) := by rfl)
    (hf : X.fn x = true ∨ X.env.scope.names.lookup x = some .local := by first | exact .inl rfl | exact .inr rfl) : PGs X (.Name x pos :: ts) (gSetAll (i :: is)) :=
  pgsI (pgs_cons (pg_name hN hi hx hf) h hs) fun vs σ H Q ⟨σ', e, q⟩ => by
    match vs, e with
    | v :: vs, e => exact ⟨v, vs, rfl, σ', e, q⟩
theorem setAllV_length : ∀ {is : List Nat} {vs : List V} {σ σ' : St}, setAllV is vs σ = some σ' → vs.length = is.length
  | [], [], _, _, _ => rfl
  | [], _ :: _, _, _, h => nomatch h
  | _ :: _, [], _, _, h => nomatch h
  | i :: is, v :: vs, σ, σ', h => by simp [setAllV_length (is := is) (vs := vs) h]
theorem parNG {kt : Nat} {k2 : Nat} {pt pt2 : Pos} (hc : X.calm = true) (hM : MonoA ta) (ha : PA X es ta) (hg : PGs X ts (gSetAll is)) (hn : (assignEach ts X.env).length = is.length := by rfl) (hst : (assignEach ts X.env).findIdx? (·.1) = none := by rfl)
    (hs : swapsWithSole [.Tuple ts kt pt] (.Tuple es k2 pt2) pos.line X.env = pure false := by rfl) (hw : swappedStores [.Tuple ts kt pt] (.Tuple es k2 pt2) X.env = pure none := by rfl)
    (h1 : (assignEach [.Tuple ts kt pt] X.env).map (·.2) = [assign (.Tuple ts kt pt) X.env] := by rfl) : PS X (.Assign [.Tuple ts kt pt] (.Tuple es k2 pt2) pos) (tParN is ta) :=
  psI (ps_asg (pe_tup ha) (pg_tup hc hg hn hst) hs hw h1) fun D σ H h => hM σ H _ _ (fun vs H1 ⟨z, σ', e, _, q⟩ => ⟨z, fun p hp => ⟨p, vs, rfl, SqT.of upd_same, setAllV_length e, σ', e, q p hp⟩⟩) h
section
variable {P : Program} {w : World} {K : PySem.W.Frag} {B : Bs} {σ : St} {H G : Hp} {r : PL.Row}
theorem Rel.setAll : ∀ {is : List Nat} {vs : List V} {ds : List PL.D} {σ : St} {s s' : PL.Sl}, Rel P w B O σ H G s r → (∀ i ∈ is, i ∉ O) → DvA P w B.r0 G vs ds → PL.setAll is ds s = some s' → ∃ σ', setAllV is vs σ = some σ' ∧ Rel P w B O σ' H G s' r
  | [], _, _, σ, s, s', R, hi, .nil, h => by cases h; exact ⟨σ, rfl, R⟩
  | i :: is, _, _, σ, s, s', R, hi, .cons D1 D2, h => by
    have h : PL.setAll is _ (s.set i (some _)) = some s' := h
    obtain ⟨σ', e, R'⟩ := (R.set (hi i List.mem_cons_self) D1).setAll (fun j hj => hi j (List.mem_cons_of_mem _ hj)) D2 h
    exact ⟨σ', e, R'⟩
  | _ :: _, _, _, _, _, _, _, _, .nil, h => nomatch h
  | [], _, _, _, _, _, _, _, .cons _ _, h => nomatch h
theorem Rel.setAllO : ∀ {is : List Nat} {k : Nat} {vs : List V} {ds : List PL.D} {σ σ0 : St} {s s' s0 : PL.Sl} {i : Nat}, Rel P w B O σ H G s r → (∀ i ∈ is, i ∉ O) → is.Nodup → DvAo P w B O σ0 s0 H G k vs ds → (∀ j ∈ O, s[j]? = s0[j]? ∧ σ[j]? = σ0[j]?) →
    is[k]? = some i → PL.setAll is ds s = some s' → ∃ σ', setAllV is vs σ = some σ' ∧ Rel P w B (i :: O) σ' H G s' r
  | j :: is, _, _, _, σ, σ0, s, s', s0, i, R, hi, nd, .own F W D2, eqs, hk, h => by
    have e : j = i := by simpa using hk
    subst e
    obtain ⟨nd1, nd2⟩ := List.nodup_cons.mp nd
    have h : PL.setAll is _ (s.set j (some _)) = some s' := h
    obtain ⟨σ', e, R'⟩ := (R.setOwn F.1 F.2.1 F.2.2.1 W fun l hl _ e he => by rw [(eqs l hl).2]; exact F.2.2.2 l hl e (by rw [← (eqs l hl).1]; exact he)).setAll (fun l hl z => by
      rcases List.mem_cons.mp z with q | q
      · subst q; exact nd1 hl
      · exact hi l (List.mem_cons_of_mem _ hl) q) D2 h
    exact ⟨σ', e, R'⟩
  | j :: is, _, _, _, σ, σ0, s, s', s0, i, R, hi, nd, .skip D1 D2, eqs, hk, h => by
    obtain ⟨nd1, nd2⟩ := List.nodup_cons.mp nd
    have h : PL.setAll is _ (s.set j (some _)) = some s' := h
    have hj := hi j List.mem_cons_self
    obtain ⟨σ', e, R'⟩ := Rel.setAllO (R.set hj D1) (fun l hl => hi l (List.mem_cons_of_mem _ hl)) nd2 D2 (fun l hl => by
      have ne : j ≠ l := fun z => hj (z ▸ hl)
      rw [List.getElem?_set_ne ne, List.getElem?_set_ne ne]
      exact eqs l hl) (by simpa using hk) h
    exact ⟨σ', e, R'⟩
  | [], _, _, _, _, _, _, _, _, _, _, _, _, _, _, hk, _ => by simp at hk
end
theorem ds_par (h : PS X st (tParN is (tA X.prog X.w X.K T O ra))) (hl : is.length ≤ 1000 := by decide) (hO : ∀ i ∈ is, i ∉ O := by decide) : DS X T O O st (PL.sPar is ra) := by
  refine psI h fun D σ H h => ?_
  obtain ⟨B, G, s, r, out, hT, bo, R, hf, qn, qr⟩ := h
  unfold PL.sPar at hf
  split at hf
  · cases hf
  · rename_i ds r1 ea
    split at hf
    · cases hf
    · rename_i s1 es
      cases hf
      refine ⟨B, G, s, r, ds, r1, hT, bo, R, ea, fun vs H1 G1 R1 S1 D1 => ?_⟩
      obtain ⟨σ', e, R'⟩ := R1.setAll hO D1 es
      have := setAllV_length e
      have := len1000
      exact ⟨by omega, σ', e, qn _ _ _ _ _ rfl R' S1, fun p hp => qn _ _ _ _ _ rfl (R'.track bo hp) S1⟩
theorem ds_parO (k i : Nat) (h : PS X st (tParN is (tAo X.prog X.w X.K T O k ra))) (hk : is[k]? = some i := by rfl) (hl : is.length ≤ 1000 := by decide) (hO : ∀ i ∈ is, i ∉ O := by decide) (nd : is.Nodup := by decide) : DS X T O (i :: O) st (PL.sPar is ra) := by
  refine psI h fun D σ H h => ?_
  obtain ⟨B, G, s, r, out, hT, bo, R, hf, qn, qr⟩ := h
  unfold PL.sPar at hf
  split at hf
  · cases hf
  · rename_i ds r1 ea
    split at hf
    · cases hf
    · rename_i s1 es
      cases hf
      refine ⟨B, G, s, r, ds, r1, hT, bo, R, ea, fun vs H1 G1 R1 S1 D1 => ?_⟩
      obtain ⟨σ', e, R'⟩ := Rel.setAllO R1 hO nd D1 (fun _ _ => ⟨rfl, rfl⟩) hk es
      have := setAllV_length e
      have := len1000
      exact ⟨by omega, σ', e, qn _ _ _ _ _ rfl R' S1, fun p hp => qn _ _ _ _ _ rfl (R'.track bo hp) S1⟩
end
end DL
end
section
set_option Elab.async false
set_option autoImplicit false
set_option linter.all false
set_option maxRecDepth 100000
set_option maxHeartbeats 1000000
/-! DL7: comprehensions, generator expressions, calls, a def's promise. -/
namespace DL
open PySem PySem.Spec PyProof.Rows L2

section
variable {P : Program} {w : World} {K : PySem.W.Frag} {T : List Addr} {B : Bs} {O vs : List Nat} {σ σ' : St} {H H' G G' : Hp} {s s' : PL.Sl} {r r' : PL.Row} {wa : PL.Ar} {g : PL.Tg} {t : PL.Te} {e kx : PL.Ex}
theorem Rel.rewipe {σ2 : St} {s1 : PL.Sl} (R : Rel P w B O σ2 H G s1 r) (hv : ∀ v ∈ vs, v ∉ O) (h1 : L2.wipe σ2 vs = L2.wipe σ vs) (h2 : PL.wipe s1 vs = PL.wipe s vs) : Rel P w B O (L2.wipe σ vs) H G (PL.wipe s vs) r := by
  rw [← h1, ← h2]; exact R.wipe vs hv
theorem fresh_unwipe {a : Addr} (hv : ∀ v ∈ vs, v ∉ O) (F : Fresh B O (L2.wipe σ vs) (PL.wipe s vs) G a) : Fresh B O σ s G a :=
  ⟨F.1, F.2.1, F.2.2.1, fun j hj e he => by
    have hj' : j ∉ vs := fun z => hv j z hj
    have z := F.2.2.2 j hj e (by rw [plwipe_keep s hj']; exact he)
    rwa [wipe_keep σ hj'] at z⟩
theorem fresh_wipe {a : Addr} (hv : ∀ v ∈ vs, v ∉ O) (F : Fresh B O σ s G a) : Fresh B O (L2.wipe σ vs) (PL.wipe s vs) G a :=
  ⟨F.1, F.2.1, F.2.2.1, fun j hj e he => by
    have hj' : j ∉ vs := fun z => hv j z hj
    rw [plwipe_keep s hj'] at he
    rw [wipe_keep σ hj']
    exact F.2.2.2 j hj e he⟩
theorem fresh_mono {a : Addr} {o : HO} (S : Same G G') (R : Rel P w (B.put a o) O σ H G' s r) (F : Fresh B O σ s G a) : Fresh B O σ s G' a := (R.unput F.2.1 F.2.2.1).2.1
/-- the protected object is another -/
theorem Rel.reput {a : Addr} {o o2 : HO} (R : Rel P w (B.put a o) O σ H G s r) (bo : BOk K B) (h0 : B.H0 a = none) (ht : B.tmp a = none) : Rel P w (B.put a o2) O σ (upd H a o2) G s r := by
  obtain ⟨R1, F1, _⟩ := R.unput h0 ht
  exact (R1.poke (o := o2) bo F1).put F1 upd_same
theorem lcI (hv : ∀ v ∈ vs, v ∉ O) {Q : VK} (h : tF P w K T O (PL.eComp vs wa g t e) σ H Q) : tLc (tI P w K T O wa) (tG P w O vs g) (tT P w K T O t) (tE P w K T O e) vs σ H Q := by
  obtain ⟨B, G, s, r, d, rE, hT, bo, R, hf, q⟩ := h
  unfold PL.eComp at hf
  split at hf
  · cases hf
  · rename_i ds r1 ew
    split at hf
    · rename_i hlen
      split at hf
      · cases hf
      · rename_i xs r2 ec
        cases hf
        refine ⟨B, G, s, r, ds, r1, hT, bo, R, ew, fun J H1 G1 R1 S1 W D hD => ?_⟩
        have fr : Fresh B O σ s G1 D := ⟨R1.gnone hD, R1.h0none hD, R1.tnone hD, fun j hj e he z => by
          obtain ⟨a, h1, _, _, _, h5⟩ := R1.own j hj e he
          rw [z] at h1
          cases h1
          obtain ⟨o, ho⟩ := h5.some
          rw [hD] at ho
          cases ho⟩
        refine ⟨fun i m H => m = ds.length - i ∧ i ≤ ds.length ∧ ∃ G' acc av r', Rel P w (B.put D (.lst av)) O (L2.wipe σ vs) H G' (PL.wipe s vs) r' ∧ Same G1 G' ∧ DvA P w B.r0 G' av acc ∧ acc.length ≤ i ∧
          ∃ ys, PL.compL g t e (PL.wipe s vs) (ds.drop i) r' = some (ys, rE) ∧ acc ++ ys = xs, ⟨ds.length, by simp, Nat.zero_le _, G1, [], [], r1, ?_, Same.refl _, .nil, Nat.le_refl _, xs, by simpa using ec, rfl⟩, ?_⟩
        · exact Rel.wipe ((R1.track (o := .lst []) bo hD).put fr upd_same) vs hv
        rintro i m H2 ⟨rfl, hi, G2, acc, av, r3, R2, S2, DA, hl, ys, ey, eacc⟩
        have SH : Same G1 H2 := fun b o h => R2.sub b o (S2 b o h)
        have bo' : BOk K (B.put D (.lst av)) := bo.put fr.2.1
        by_cases hlt : i < ds.length
        · refine .inr ⟨W.go i H2 SH hlt, fun H => i + 1 ≤ ds.length ∧ ∃ G' acc av r', Rel P w (B.put D (.lst av)) O (L2.wipe σ vs) H G' (PL.wipe s vs) r' ∧ Same G1 G' ∧ DvA P w B.r0 G' av acc ∧ acc.length ≤ i + 1 ∧
            ∃ ys, PL.compL g t e (PL.wipe s vs) (ds.drop (i + 1)) r' = some (ys, rE) ∧ acc ++ ys = xs, fun H' z => ⟨ds.length - (i + 1), by omega, rfl, z⟩, fun x H3 hy => ?_⟩
          obtain ⟨d, G3, hd, R3, S3, D3⟩ := WalkD.turn (B := B.put D (.lst av)) W S2 R2 bo' hlt hy
          have ed : ds.drop i = d :: ds.drop (i + 1) := by
            rw [List.getElem?_eq_getElem hlt] at hd
            cases hd
            exact List.drop_eq_getElem_cons hlt
          rw [ed] at ey
          unfold PL.compL at ey
          split at ey
          · cases ey
          · rename_i s1 eg
            refine ⟨B.put D (.lst av), G3, PL.wipe s vs, r3, d, s1, R3, D3, eg, fun σ2 R4 w1 w2 => ⟨by rw [w1, GG.wipe_wipe], ?_⟩⟩
            rw [GG.wipe_wipe] at w1
            rw [plwipe_wipe] at w2
            split at ey
            · cases ey
            · rename_i r4 et
              refine ⟨B.put D (.lst av), G3, s1, r3, false, r4, hT, bo', R4, et, fun H4 G4 R5 S5 => iteF ?_⟩
              exact ⟨hlt, G4, acc, av, r4, R5.rewipe hv w1 w2, S2.trans (S3.trans S5), DA.mono (S3.trans S5), by omega, ys, ey, eacc⟩
            · rename_i r4 et
              refine ⟨B.put D (.lst av), G3, s1, r3, true, r4, hT, bo', R4, et, fun H4 G4 R5 S5 => iteT ?_⟩
              split at ey
              · cases ey
              · rename_i x2 r5 ee
                split at ey
                · cases ey
                · rename_i zs r6 er
                  cases ey
                  refine ⟨B.put D (.lst av), G4, s1, r4, x2, r5, hT, bo', R5, ee, fun y H5 G5 R6 S6 D6 => ?_⟩
                  have lz := len1000
                  have la := DA.length
                  have hlm : ds.length ≤ 1000 := hlen
                  refine ⟨av, (R6.tmp D _ upd_same).1, by omega, hlt, G5, acc ++ [x2], av ++ [y], r5, ?_, S2.trans (S3.trans (S5.trans S6)), (DA.mono (S3.trans (S5.trans S6))).append (.cons D6 .nil), by simp; omega, zs, er, by rw [List.append_assoc]; exact eacc⟩
                  exact (R6.rewipe hv w1 w2).reput bo fr.2.1 fr.2.2.1
        · have e : i = ds.length := by omega
          subst e
          rw [List.drop_length] at ey
          cases ey
          rw [List.append_nil] at eacc
          subst eacc
          obtain ⟨R3, F3, h3⟩ := R2.unput fr.2.1 fr.2.2.1
          exact .inl ⟨W.stop _ H2 SH rfl, q D H2 G2 (R3.unwipe hv R1 S2) (S1.trans S2) (fresh_unwipe hv F3) ⟨av, h3, DA⟩⟩
    · cases hf
theorem dcI (hv : ∀ v ∈ vs, v ∉ O) {Q : VK} (h : tF P w K T O (PL.eCompI vs wa g kx e) σ H Q) : L2.tDc (tI P w K T O wa) (tG P w O vs g) L2.tYes (tE P w K T O kx) (tE P w K T O e) vs σ H Q := by
  obtain ⟨B, G, s, r, d, rE, hT, bo, R, hf, q⟩ := h
  unfold PL.eCompI at hf
  split at hf
  · cases hf
  · rename_i ds r1 ew
    split at hf
    · rename_i hlen
      split at hf
      · cases hf
      · rename_i xs r2 ec
        cases hf
        refine ⟨B, G, s, r, ds, r1, hT, bo, R, ew, fun J H1 G1 R1 S1 W D hD => ?_⟩
        have fr : Fresh B O σ s G1 D := ⟨R1.gnone hD, R1.h0none hD, R1.tnone hD, fun j hj e he z => by
          obtain ⟨a, h1, _, _, _, h5⟩ := R1.own j hj e he
          rw [z] at h1
          cases h1
          obtain ⟨o, ho⟩ := h5.some
          rw [hD] at ho
          cases ho⟩
        refine ⟨fun i m H => m = ds.length - i ∧ i ≤ ds.length ∧ ∃ G' acc av r', Rel P w (B.put D (.dK av)) O (L2.wipe σ vs) H G' (PL.wipe s vs) r' ∧ Same G1 G' ∧ DvI P w B.r0 G' av acc ∧ acc.length ≤ i ∧
          PL.compI g kx e (PL.wipe s vs) (ds.drop i) acc r' = some (xs, rE), ⟨ds.length, by simp, Nat.zero_le _, G1, [], [], r1, ?_, Same.refl _, .nil, Nat.le_refl _, by simpa using ec⟩, ?_⟩
        · exact Rel.wipe ((R1.track (o := .dK []) bo hD).put fr upd_same) vs hv
        rintro i m H2 ⟨rfl, hi, G2, acc, av, r3, R2, S2, DA, hl, ey⟩
        have SH : Same G1 H2 := fun b o h => R2.sub b o (S2 b o h)
        have bo' : BOk K (B.put D (.dK av)) := bo.put fr.2.1
        by_cases hlt : i < ds.length
        · refine .inr ⟨W.go i H2 SH hlt, fun H => i + 1 ≤ ds.length ∧ ∃ G' acc av r', Rel P w (B.put D (.dK av)) O (L2.wipe σ vs) H G' (PL.wipe s vs) r' ∧ Same G1 G' ∧ DvI P w B.r0 G' av acc ∧ acc.length ≤ i + 1 ∧
            PL.compI g kx e (PL.wipe s vs) (ds.drop (i + 1)) acc r' = some (xs, rE), fun H' z => ⟨ds.length - (i + 1), by omega, rfl, z⟩, fun x H3 hy => ?_⟩
          obtain ⟨d, G3, hd, R3, S3, D3⟩ := WalkD.turn (B := B.put D (.dK av)) W S2 R2 bo' hlt hy
          have ed : ds.drop i = d :: ds.drop (i + 1) := by
            rw [List.getElem?_eq_getElem hlt] at hd
            cases hd
            exact List.drop_eq_getElem_cons hlt
          rw [ed] at ey
          unfold PL.compI at ey
          split at ey
          · cases ey
          · rename_i s1 eg
            refine ⟨B.put D (.dK av), G3, PL.wipe s vs, r3, d, s1, R3, D3, eg, fun σ2 R4 w1 w2 => ⟨by rw [w1, GG.wipe_wipe], ?_⟩⟩
            unfold L2.tYes
            show (if true = true then _ else _)
            rw [if_pos rfl]
            rw [GG.wipe_wipe] at w1
            rw [plwipe_wipe] at w2
            split at ey
            · rename_i z r4 ek
              split at ey
              · cases ey
              · rename_i x2 r5 ee
                refine ⟨B.put D (.dK av), G3, s1, r3, .int z, r4, hT, bo', R4, ek, fun y4 H4 G4 R5 S5 D5 => ?_⟩
                cases D5
                refine ⟨B.put D (.dK av), G4, s1, r4, x2, r5, hT, bo', R5, ee, fun y H5 G5 R6 S6 D6 => ?_⟩
                have lz := len1000
                have la := DA.length
                have hlm : ds.length ≤ 1000 := hlen
                have hput : (PL.putI acc z x2).length ≤ acc.length + 1 := by unfold PL.putI; split <;> simp
                exact ⟨av, .inl z, rfl, (R6.tmp D _ upd_same).1, by omega, hlt, G5, _, _, r5, (R6.rewipe hv w1 w2).reput bo fr.2.1 fr.2.2.1, S2.trans (S3.trans (S5.trans S6)), dvi_put D6 (DA.mono (S3.trans (S5.trans S6))), by omega, ey⟩
            · cases ey
        · have e : i = ds.length := by omega
          subst e
          rw [List.drop_length] at ey
          cases ey
          obtain ⟨R3, F3, h3⟩ := R2.unput fr.2.1 fr.2.2.1
          exact .inl ⟨W.stop _ H2 SH rfl, q D H2 G2 (R3.unwipe hv R1 S2) (S1.trans S2) (fresh_unwipe hv F3) ⟨av, h3, DA⟩⟩
    · cases hf
theorem Rel.tabbed {p : Addr} {H2 : Hp} (R : Rel P w B O σ H G s r) (bo : BOk K B) (hp : p ∈ B.tabs) (hT : GxR.Tabbed p H H2) : Rel P w B O σ H2 G s r := by
  obtain ⟨tg, kp⟩ := hT
  have gp : G p = none := R.n0 p (bo.tabs' p hp) (bo.tabs p hp)
  have nr : B.r0 ≠ p := fun e => bo.r0t (e ▸ hp)
  refine R.step bo ⟨Same.refl _, fun b u h => ?_, fun b u h h1 h2 => ?_, fun b h _ => h⟩ ⟨R.row.1, by rw [kp _ nr]; exact R.row.2⟩ fun q hq => ?_
  · rw [kp b (fun e => by subst e; rw [gp] at h; cases h)]; exact R.sub b u h
  · rw [kp b (fun e => h2 (e ▸ hp))]; exact h
  · by_cases e : q = p
    · subst e; exact tg
    · obtain ⟨ps, e1, t⟩ := R.tab q hq
      exact ⟨ps, by rw [kp q e]; exact e1, t⟩
theorem gbI {p : Addr} (hp : p ∈ T) (hv : ∀ v ∈ vs, v ∉ O) (stop : Bool) {Q : VK} (h : tE P w K T O (PL.eGen stop vs wa g t e) σ H Q) : GG.tGenB stop p (tI P w K T O wa) (tG P w O vs g) (tT P w K T O t) (tE P w K T O e) vs σ H Q := by
  obtain ⟨B, G, s, r, d, rE, hT, bo, R, hf, q⟩ := h
  unfold PL.eGen at hf
  split at hf
  · cases hf
  · rename_i ds r1 ew
    split at hf
    · cases hf
    · rename_i b r2 ec
      cases hf
      refine ⟨B, G, s, r, ds, r1, hT, bo, R, ew, fun J H1 G1 R1 S1 W => ?_⟩
      have hp' : p ∈ B.tabs := by rw [hT]; exact hp
      refine ⟨R1.tab p hp', fun H1' hTb => ?_⟩
      have R1' := R1.tabbed bo hp' hTb
      refine ⟨fun m i H => m = ds.length - i ∧ i ≤ ds.length ∧ ∃ G' r', Rel P w B O (L2.wipe σ vs) H G' (PL.wipe s vs) r' ∧ Same G1 G' ∧ PL.genAll g t e (PL.wipe s vs) stop (ds.drop i) r' = some (b, rE),
        ⟨ds.length, by simp, Nat.zero_le _, G1, r1, R1'.wipe vs hv, Same.refl _, by simpa using ec⟩, ?_⟩
      rintro i m H2 ⟨rfl, hi, G2, r3, R2, S2, ey⟩
      have SH : Same G1 H2 := fun b o h => R2.sub b o (S2 b o h)
      by_cases hlt : i < ds.length
      · refine .inr ⟨W.go i H2 SH hlt, fun H => i + 1 ≤ ds.length ∧ ∃ G' r', Rel P w B O (L2.wipe σ vs) H G' (PL.wipe s vs) r' ∧ Same G1 G' ∧ PL.genAll g t e (PL.wipe s vs) stop (ds.drop (i + 1)) r' = some (b, rE),
          fun H' z => ⟨ds.length - (i + 1), by omega, rfl, z⟩, fun x H3 hy => ?_⟩
        obtain ⟨d, G3, hd, R3, S3, D3⟩ := W.turn S2 R2 bo hlt hy
        have ed : ds.drop i = d :: ds.drop (i + 1) := by
          rw [List.getElem?_eq_getElem hlt] at hd
          cases hd
          exact List.drop_eq_getElem_cons hlt
        rw [ed] at ey
        unfold PL.genAll at ey
        split at ey
        · cases ey
        · rename_i s1 eg
          refine ⟨B, G3, PL.wipe s vs, r3, d, s1, R3, D3, eg, fun σ2 R4 w1 w2 => ⟨w1, ?_⟩⟩
          rw [GG.wipe_wipe] at w1
          rw [plwipe_wipe] at w2
          split at ey
          · cases ey
          · rename_i r4 et
            refine ⟨B, G3, s1, r3, false, r4, hT, bo, R4, et, fun H4 G4 R5 S5 => iteF ?_⟩
            exact ⟨⟨hlt, G4, r4, R5.rewipe hv w1 w2, S2.trans (S3.trans S5), ey⟩, fun _ z => z⟩
          · rename_i r4 et
            refine ⟨B, G3, s1, r3, true, r4, hT, bo, R4, et, fun H4 G4 R5 S5 => iteT ?_⟩
            split at ey
            · rename_i k r5 ee
              refine ⟨B, G4, s1, r4, .bl k, r5, hT, bo, R5, ee, fun y H5 G5 R6 S6 D6 => ?_⟩
              cases D6
              have SS := S2.trans (S3.trans (S5.trans S6))
              refine ⟨⟨k, rfl, ?_⟩, fun _ z => z⟩
              split at ey
              · rename_i ek
                cases ey
                rw [if_pos ek]
                exact q _ H5 G5 ((R6.rewipe hv w1 w2).unwipe hv R1 SS) (S1.trans SS) (.bl _)
              · rename_i ek
                rw [if_neg ek]
                exact ⟨hlt, G5, r5, R6.rewipe hv w1 w2, SS, ey⟩
            · cases ey
      · have e : i = ds.length := by omega
        subst e
        rw [List.drop_length] at ey
        cases ey
        exact .inl ⟨W.stop _ H2 SH rfl, q _ H2 G2 (R2.unwipe hv R1 S2) (S1.trans S2) (.bl _)⟩
theorem gsI {p : Addr} (hp : p ∈ T) (hv : ∀ v ∈ vs, v ∉ O) {Q : VK} (h : tE P w K T O (PL.eSum vs wa g t e) σ H Q) : GG.tGenS p (tI P w K T O wa) (tG P w O vs g) (tT P w K T O t) (tE P w K T O e) vs σ H Q := by
  obtain ⟨B, G, s, r, d, rE, hT, bo, R, hf, q⟩ := h
  unfold PL.eSum at hf
  split at hf
  · cases hf
  · rename_i ds r1 ew
    split at hf
    · cases hf
    · rename_i b r2 ec
      cases hf
      refine ⟨B, G, s, r, ds, r1, hT, bo, R, ew, fun J H1 G1 R1 S1 W => ?_⟩
      have hp' : p ∈ B.tabs := by rw [hT]; exact hp
      refine ⟨R1.tab p hp', fun H1' hTb D hD => ?_⟩
      have R1' := R1.tabbed bo hp' hTb
      have fr : Fresh B O σ s G1 D := ⟨R1'.gnone hD, R1'.h0none hD, R1'.tnone hD, fun j hj e he z => by
        obtain ⟨a, h1, _, _, _, h5⟩ := R1'.own j hj e he
        rw [z] at h1
        cases h1
        obtain ⟨o, ho⟩ := h5.some
        rw [hD] at ho
        cases ho⟩
      refine ⟨fun m i H => m = ds.length - i ∧ i ≤ ds.length ∧ ∃ G' r' n, Rel P w (B.put D (.lst [.int n])) O (L2.wipe σ vs) H G' (PL.wipe s vs) r' ∧ Same G1 G' ∧ PL.genSum g t e (PL.wipe s vs) (ds.drop i) n r' = some (b, rE),
        ⟨ds.length, by simp, Nat.zero_le _, G1, r1, 0, Rel.wipe ((R1'.track (o := .lst [.int 0]) bo hD).put fr upd_same) vs hv, Same.refl _, by simpa using ec⟩, ?_, ?_⟩
      · rintro m i H2 ⟨_, _, G2, r3, n, R2, _⟩
        exact ⟨n, (R2.tmp D _ upd_same).1⟩
      rintro i m H2 ⟨rfl, hi, G2, r3, n, R2, S2, ey⟩
      have SH : Same G1 H2 := fun b o h => R2.sub b o (S2 b o h)
      have bo' : BOk K (B.put D (.lst [.int n])) := bo.put fr.2.1
      have hn2 : H2 D = some (.lst [.int n]) := (R2.tmp D _ upd_same).1
      by_cases hlt : i < ds.length
      · refine .inr ⟨W.go i H2 SH hlt, fun H => i + 1 ≤ ds.length ∧ ∃ G' r' n, Rel P w (B.put D (.lst [.int n])) O (L2.wipe σ vs) H G' (PL.wipe s vs) r' ∧ Same G1 G' ∧ PL.genSum g t e (PL.wipe s vs) (ds.drop (i + 1)) n r' = some (b, rE),
          fun H' z => ⟨ds.length - (i + 1), by omega, rfl, z⟩, fun x H3 hy => ?_⟩
        obtain ⟨d, G3, hd, R3, S3, D3⟩ := WalkD.turn (B := B.put D (.lst [.int n])) W S2 R2 bo' hlt hy
        have ed : ds.drop i = d :: ds.drop (i + 1) := by
          rw [List.getElem?_eq_getElem hlt] at hd
          cases hd
          exact List.drop_eq_getElem_cons hlt
        rw [ed] at ey
        unfold PL.genSum at ey
        split at ey
        · cases ey
        · rename_i s1 eg
          refine ⟨B.put D (.lst [.int n]), G3, PL.wipe s vs, r3, d, s1, R3, D3, eg, fun σ2 R4 w1 w2 => ⟨w1, ?_⟩⟩
          rw [GG.wipe_wipe] at w1
          rw [plwipe_wipe] at w2
          split at ey
          · cases ey
          · rename_i r4 et
            refine ⟨B.put D (.lst [.int n]), G3, s1, r3, false, r4, hT, bo', R4, et, fun H4 G4 R5 S5 => iteF ?_⟩
            exact ⟨⟨hlt, G4, r4, n, R5.rewipe hv w1 w2, S2.trans (S3.trans S5), ey⟩, fun s0 z v t c hc => by
              have z1 := z v t c hc
              rw [hn2] at z1
              rw [(R5.tmp D _ upd_same).1]
              exact z1⟩
          · rename_i r4 et
            refine ⟨B.put D (.lst [.int n]), G3, s1, r3, true, r4, hT, bo', R4, et, fun H4 G4 R5 S5 => iteT ?_⟩
            split at ey
            · rename_i k r5 ee
              refine ⟨B.put D (.lst [.int n]), G4, s1, r4, .int k, r5, hT, bo', R5, ee, fun y H5 G5 R6 S6 D6 => ?_⟩
              cases D6
              have SS := S2.trans (S3.trans (S5.trans S6))
              have h5 := (R6.tmp D _ upd_same).1
              split at ey
              · refine ⟨⟨k, n, rfl, h5, hlt, G5, r5, n + k, (R6.rewipe hv w1 w2).reput bo fr.2.1 fr.2.2.1, SS, ey⟩, fun s0 z v t c hc => by
                  have z1 := z v t c hc
                  rw [hn2] at z1
                  rw [h5]
                  exact z1⟩
              · cases ey
            · cases ey
      · have e : i = ds.length := by omega
        subst e
        rw [List.drop_length] at ey
        cases ey
        obtain ⟨R3, F3, h3⟩ := R2.unput fr.2.1 fr.2.2.1
        refine .inl ⟨W.stop _ H2 SH rfl, fun n' hn' => ?_⟩
        rw [h3] at hn'
        cases hn'
        exact q _ H2 G2 (R3.unwipe hv R1 S2) (S1.trans S2) (.int _)
end

/-! ### rules -/
abbrev DTs (X : Cx) (T : List Addr) (O : List Nat) (ifs : List Expr) (f : PL.Te) : Prop := PTs X ifs (tT X.prog X.w X.K T O f)
theorem ptsI {X : Cx} {ifs : List Expr} {t t' : TT} (h : PTs X ifs t) (hi : ∀ σ H Q, t' σ H Q → t σ H Q) : PTs X ifs t' := ⟨fun pins s σ H Q I q => h.run pins s σ H Q I (hi σ H Q q)⟩
section
variable {X : Cx} {T : List Addr} {O O1 O' : List Nat} {a b c e elt tg it kx vx : Expr} {es ifs : List Expr} {pos spos gpos p : Pos} {fa fk fe f : PL.Ex} {g : PL.Tg} {t : PL.Te} {wa : PL.Ar} {ra : PL.Ar} {scope : Scope} {own : List (Str × Nat)} {k : Nat}
theorem dts_nil : DTs X T O [] PL.tYes := ptsI pts_nil fun σ H Q ⟨B, G, s, r, b, r', hT, bo, R, hf, q⟩ => by
  cases hf
  exact q H G R (Same.refl _)
theorem dts_one (h : DT X T O c t) : DTs X T O [c] t := pts_one h
/-- the parts of a comprehension, in its frame -/
abbrev BG (X : Cx) (O vs : List Nat) (scope : Scope) (tg : Expr) (g : PL.Tg) : Prop := ∀ (s : Shared) (H : Hp) (C : Addr) (cl : List (Str × Addr)) (fp : List Addr), DG (X.blk s H scope (compEnvC scope cl C X.env) fp) O vs tg g
abbrev BT (X : Cx) (T : List Addr) (O : List Nat) (scope : Scope) (ifs : List Expr) (t : PL.Te) : Prop := ∀ (s : Shared) (H : Hp) (C : Addr) (cl : List (Str × Addr)) (fp : List Addr), DTs (X.blk s H scope (compEnvC scope cl C X.env) fp) T O ifs t
abbrev BE (X : Cx) (T : List Addr) (O : List Nat) (scope : Scope) (e : Expr) (f : PL.Ex) : Prop := ∀ (s : Shared) (H : Hp) (C : Addr) (cl : List (Str × Addr)) (fp : List Addr), DE (X.blk s H scope (compEnvC scope cl C X.env) fp) T O e f
theorem df_comp (hc : X.calm = true) (hN : X.N.Nodup) (hi : DI X T O tg it wa) (ok : BlkOk X.N X.env.scope scope own) (hg : BG X O (own.map (·.2)) scope tg g) (ht : BT X T O scope ifs t) (he : BE X T O scope elt fe)
    (hv : ∀ v ∈ own.map (·.2), v ∉ O := by decide) (hs : ∀ x, foldedSetIterable it X.env x = pure x := by intro _; rfl) : DF X T O (.ListComp elt [⟨tg, it, ifs, 0⟩] scope pos) (PL.eComp (own.map (·.2)) wa g t fe) :=
  peI (pe_lc hc hN hi ok hg ht he hs) fun σ H Q h => lcI hv h
theorem de_compI (hc : X.calm = true) (hN : X.N.Nodup) (hi : DI X T O tg it wa) (ok : BlkOk X.N X.env.scope scope own) (hg : BG X O (own.map (·.2)) scope tg g) (hk : BE X T O scope kx fk) (he : BE X T O scope vx fe)
    (hv : ∀ v ∈ own.map (·.2), v ∉ O := by decide) (hs : ∀ x, foldedSetIterable it X.env x = pure x := by intro _; rfl) : DF X T O (.DictComp kx vx [⟨tg, it, [], 0⟩] scope pos) (PL.eCompI (own.map (·.2)) wa g fk fe) :=
  peI (pe_dc hc hN hi ok hg (fun _ _ _ _ _ => pts_nil) hk he hs) fun σ H Q h => dcI hv h
/-- name = [..] on one line -/
theorem lc_set {i : Nat} {y : Str} {py : Pos} (hc : X.calm = true) (hN : X.N.Nodup) (hi : DI X T O tg it wa) (ok : BlkOk X.N X.env.scope scope own) (hg : BG X O (own.map (·.2)) scope tg g) (ht : BT X T O scope ifs t) (he : BE X T O scope elt fe)
    (hv : ∀ v ∈ own.map (·.2), v ∉ O) (hs : ∀ x, foldedSetIterable it X.env x = pure x) (hy : X.N[i]? = some y) (hyl : X.env.scope.names.lookup y = some .local)
    (hsw : swapsWith (.ListComp elt [⟨tg, it, ifs, 0⟩] scope pos) (some (.Name y py)) spos.line X.env = pure true) :
    PS X (.Assign [.Name y py] (.ListComp elt [⟨tg, it, ifs, 0⟩] scope pos) spos) (tAsg (tF X.prog X.w X.K T O (PL.eComp (own.map (·.2)) wa g t fe)) (gName i)) :=
  psI (ps_setLc hc hN hy hyl hsw hi ok hg ht he hs) fun D σ H h => lcI hv h
theorem ds_setLc (i : Nat) {y : Str} {py : Pos} (hc : X.calm = true) (hN : X.N.Nodup) (hi : DI X T O tg it wa) (ok : BlkOk X.N X.env.scope scope own) (hg : BG X O (own.map (·.2)) scope tg g) (ht : BT X T O scope ifs t) (he : BE X T O scope elt fe)
    (hv : ∀ v ∈ own.map (·.2), v ∉ O := by decide) (hs : ∀ x, foldedSetIterable it X.env x = pure x := by intro _; rfl) (hy : X.N[i]? = some y := by rfl) (hyl : X.env.scope.names.lookup y = some .local := by rfl) (hO : i ∉ O := by decide)
    (hsw : swapsWith (.ListComp elt [⟨tg, it, ifs, 0⟩] scope pos) (some (.Name y py)) spos.line X.env = pure true := by rfl) :
    DS X T O O (.Assign [.Name y py] (.ListComp elt [⟨tg, it, ifs, 0⟩] scope pos) spos) (PL.sSet i (PL.eComp (own.map (·.2)) wa g t fe)) := by
  refine psI (lc_set hc hN hi ok hg ht he hv hs hy hyl hsw) fun D σ H h => ?_
  obtain ⟨B, G, s, r, out, hT, bo, R, hf, qn, qr⟩ := h
  unfold PL.sSet at hf
  split at hf
  · cases hf
  · rename_i d r1 ea
    cases hf
    refine ⟨B, G, s, r, d, r1, hT, bo, R, ea, fun v H' G' R' S' F' W' => ?_⟩
    obtain ⟨o, ho, k⟩ := own_dv W'
    obtain ⟨R2, S2⟩ := R'.freeze bo F' ho
    exact qn _ _ _ _ _ rfl (R2.set hO (k _ S2 upd_same)) (S'.trans S2)
theorem dso_setLc (i : Nat) {y : Str} {py : Pos} (hc : X.calm = true) (hN : X.N.Nodup) (hi : DI X T O tg it wa) (ok : BlkOk X.N X.env.scope scope own) (hg : BG X O (own.map (·.2)) scope tg g) (ht : BT X T O scope ifs t) (he : BE X T O scope elt fe)
    (hv : ∀ v ∈ own.map (·.2), v ∉ O := by decide) (hs : ∀ x, foldedSetIterable it X.env x = pure x := by intro _; rfl) (hy : X.N[i]? = some y := by rfl) (hyl : X.env.scope.names.lookup y = some .local := by rfl)
    (hsw : swapsWith (.ListComp elt [⟨tg, it, ifs, 0⟩] scope pos) (some (.Name y py)) spos.line X.env = pure true := by rfl) :
    DS X T O (i :: O) (.Assign [.Name y py] (.ListComp elt [⟨tg, it, ifs, 0⟩] scope pos) spos) (PL.sSet i (PL.eComp (own.map (·.2)) wa g t fe)) := by
  refine psI (lc_set hc hN hi ok hg ht he hv hs hy hyl hsw) fun D σ H h => ?_
  obtain ⟨B, G, s, r, out, hT, bo, R, hf, qn, qr⟩ := h
  unfold PL.sSet at hf
  split at hf
  · cases hf
  · rename_i d r1 ea
    cases hf
    exact ⟨B, G, s, r, d, r1, hT, bo, R, ea, fun v H' G' R' S' F' W' => qn _ _ _ _ _ rfl (R'.setOwn F'.1 F'.2.1 F'.2.2.1 W' fun j hj _ e' he' => F'.2.2.2 j hj e' he') S'⟩
/-! generator expressions: k rooms in the frame -/
abbrev GX (X : Cx) (scope : Scope) (A' : Around) (s : Shared) (H : Hp) (C : Addr) (code : Value) (fp : List Addr) (pn : List (Addr × Obj)) : Cx := GG.genX X A' s H scope C code fp pn
abbrev gG (X : Cx) (k : Nat) (O vs : List Nat) (scope : Scope) (tg : Expr) (g : PL.Tg) : Prop := ∀ (A' : Around) (s : Shared) (H : Hp) (C : Addr) (code : Value) (fp : List Addr) (pn : List (Addr × Obj)), Room k A' → DG (GX X scope A' s H C code fp pn) O vs tg g
abbrev gT (X : Cx) (k : Nat) (T : List Addr) (O : List Nat) (scope : Scope) (ifs : List Expr) (t : PL.Te) : Prop := ∀ (A' : Around) (s : Shared) (H : Hp) (C : Addr) (code : Value) (fp : List Addr) (pn : List (Addr × Obj)), Room k A' → DTs (GX X scope A' s H C code fp pn) T O ifs t
abbrev gE (X : Cx) (k : Nat) (T : List Addr) (O : List Nat) (scope : Scope) (e : Expr) (f : PL.Ex) : Prop := ∀ (A' : Around) (s : Shared) (H : Hp) (C : Addr) (code : Value) (fp : List Addr) (pn : List (Addr × Obj)), Room k A' → DE (GX X scope A' s H C code fp pn) T O e f
theorem de_all {cd P : Addr} (hc : X.calm = true) (hr : Room (k + 1) X.A) (hgl : Gl X "all") (hm : X.mg "all" = none) (TB : GxR.TabB X.base X.mg cd P) (hP : P ∈ T) (hcode : X.env.code = .ref cd) (ok : BlkOk X.N X.env.scope scope own) (S : GG.GScp scope) (hN : X.N.Nodup) (hi : DI X T O tg it wa)
    (hg : gG X k O (own.map (·.2)) scope tg g) (ht : gT X k T O scope ifs t) (he : gE X k T O scope elt fe) (hv : ∀ v ∈ own.map (·.2), v ∉ O := by decide) (hs : ∀ v, genFold it X.env v = pure v := by intro _; rfl)
    (hst : starEach [.GeneratorExp elt [⟨tg, it, ifs, 0⟩] scope gpos] X.env = (false, eval (.GeneratorExp elt [⟨tg, it, ifs, 0⟩] scope gpos) X.env) :: starEach [] X.env := by rfl) :
    DE X T O (.Call (.Name "all" p) [.GeneratorExp elt [⟨tg, it, ifs, 0⟩] scope gpos] [] pos) (PL.eAll (own.map (·.2)) wa g t fe) :=
  peI (GG.pe_genAll hc hr hgl hm TB hcode ok S hN hi ⟨hg, ht, he⟩ hs hst) fun σ H Q h => gbI hP hv false h
theorem de_any {cd P : Addr} (hc : X.calm = true) (hr : Room (k + 1) X.A) (hgl : Gl X "any") (hm : X.mg "any" = none) (TB : GxR.TabB X.base X.mg cd P) (hP : P ∈ T) (hcode : X.env.code = .ref cd) (ok : BlkOk X.N X.env.scope scope own) (S : GG.GScp scope) (hN : X.N.Nodup) (hi : DI X T O tg it wa)
    (hg : gG X k O (own.map (·.2)) scope tg g) (ht : gT X k T O scope ifs t) (he : gE X k T O scope elt fe) (hv : ∀ v ∈ own.map (·.2), v ∉ O := by decide) (hs : ∀ v, genFold it X.env v = pure v := by intro _; rfl)
    (hst : starEach [.GeneratorExp elt [⟨tg, it, ifs, 0⟩] scope gpos] X.env = (false, eval (.GeneratorExp elt [⟨tg, it, ifs, 0⟩] scope gpos) X.env) :: starEach [] X.env := by rfl) :
    DE X T O (.Call (.Name "any" p) [.GeneratorExp elt [⟨tg, it, ifs, 0⟩] scope gpos] [] pos) (PL.eAny (own.map (·.2)) wa g t fe) :=
  peI (GG.pe_genAny hc hr hgl hm TB hcode ok S hN hi ⟨hg, ht, he⟩ hs hst) fun σ H Q h => gbI hP hv true h
theorem de_gsum {cd P : Addr} (hc : X.calm = true) (hr : Room (k + 1) X.A) (hgl : Gl X "sum") (hm : X.mg "sum" = none) (TB : GxR.TabB X.base X.mg cd P) (hP : P ∈ T) (hcode : X.env.code = .ref cd) (ok : BlkOk X.N X.env.scope scope own) (S : GG.GScp scope) (hN : X.N.Nodup) (hi : DI X T O tg it wa)
    (hg : gG X k O (own.map (·.2)) scope tg g) (ht : gT X k T O scope ifs t) (he : gE X k T O scope elt fe) (hv : ∀ v ∈ own.map (·.2), v ∉ O := by decide) (hs : ∀ v, genFold it X.env v = pure v := by intro _; rfl)
    (hst : starEach [.GeneratorExp elt [⟨tg, it, ifs, 0⟩] scope gpos] X.env = (false, eval (.GeneratorExp elt [⟨tg, it, ifs, 0⟩] scope gpos) X.env) :: starEach [] X.env := by rfl) :
    DE X T O (.Call (.Name "sum" p) [.GeneratorExp elt [⟨tg, it, ifs, 0⟩] scope gpos] [] pos) (PL.eSum (own.map (·.2)) wa g t fe) :=
  peI (GG.pe_genSum hc hr hgl hm TB hcode ok S hN hi ⟨hg, ht, he⟩ hs hst) fun σ H Q h => gsI hP hv h
end

/-! ### calls -/
/-- the promise of a def that computes F on data -/
def spD (P : Program) (w : World) (K : PySem.W.Frag) (T : List Addr) (np : Nat) (F : PL.Fn) : Sp := fun vs H Q _ => vs.length = np ∧ ∃ (B : Bs) (ds : List PL.D) (r : PL.Row) (d : PL.D) (r' : PL.Row),
  B.tabs = T ∧ BOk K B ∧ B.H0 = H ∧ Same B.G0 H ∧ (∀ b, B.tmp b = none) ∧ RowAt B H r ∧ (∀ p ∈ B.tabs, GxR.TabG H p) ∧ DvA P w B.r0 B.G0 vs ds ∧ F ds r = some (d, r') ∧
  ∀ v H' G', Step B H B.G0 H' G' → RowAt B H' r' → (∀ p ∈ B.tabs, GxR.TabG H' p) → Dv P w B.r0 G' v d → Q v H'
section
variable {P : Program} {w : World} {K : PySem.W.Frag} {T : List Addr} {B : Bs} {O vs : List Nat} {σ σ' : St} {H H' G G' : Hp} {s s' : PL.Sl} {r r' : PL.Row}
def Bs.sub (B : Bs) (H G : Hp) : Bs := { B with H0 := H, G0 := G, tmp := fun _ => none }
theorem Rel.tabne (R : Rel P w B O σ H G s r) {p : Addr} (hp : p ∈ B.tabs) : H p ≠ none := fun e => by
  obtain ⟨ps, h, _⟩ := R.tab p hp
  rw [e] at h; cases h
theorem BOk.subB (bo : BOk K B) (R : Rel P w B O σ H G s r) : BOk K (B.sub H G) where
  r0 := by show H B.r0 ≠ none; rw [R.row.2]; simp
  r0' := R.r0 bo
  r0t := bo.r0t
  tabs := fun p hp => R.tabne hp
  tabs' := fun p hp => R.n0 p (bo.tabs' p hp) (bo.tabs p hp)
  tmp := fun b o h => nomatch h
  scr := by
    rcases bo.scr with ⟨h, n1, n2⟩ | h
    · rcases h with h | ⟨o, h⟩
      · exact .inl ⟨.inl (R.k0 _ _ h n1 n2), n1, n2⟩
      · exact .inl ⟨.inr ⟨o, R.k0 _ _ h n1 n2⟩, n1, n2⟩
    · exact .inr h
end
section
variable {X : Cx} {T : List Addr} {O : List Nat} {a : Expr} {es : List Expr} {p pos : Pos} {ra : PL.Ar} {x : Str} {f : Addr} {fd : FuncData} {ps : List Str} {k np : Nat} {F : PL.Fn}
theorem de_call (hF : FnOk X.prog X.w X.K X.mg X.base CX0 k f fd ps (spD X.prog X.w X.K T np F)) (hr : Room k X.A) (hg : Gl X x) (hm : X.mg x = some (.ref f)) (hk : PySem.W.keepIn X.K (.ref f) = true) (hb : Binds X.K fd ps [])
    (ha : DA X T O (a :: es) ra) (hn : ∀ s r ds r', ra s r = some (ds, r') → ds.length = np) (hdb : (x == ("__debug__" : Str)) = false := by decide) (he : starEach (a :: es) X.env = (false, eval a X.env) :: starEach es X.env := by rfl) (hpl : (backTo pos (starEach es X.env)).any (·.1) = false := by rfl) :
    DE X T O (.Call (.Name x p) (a :: es) [] pos) (PL.eCall F ra) := by
  refine peI (pe_call (E := E0) (dvs := []) hF hr hg hm hk hb .nil pass0 ha hdb he hpl) fun σ H Q h => ?_
  obtain ⟨B, G, s, r, d, r', hT, bo, R, hf, q⟩ := h
  unfold PL.eCall at hf
  split at hf
  · rename_i ds r1 ea
    refine ⟨B, G, s, r, ds, r1, hT, bo, R, ea, fun vs H1 G1 R1 S1 D1 => ?_⟩
    show spD X.prog X.w X.K T np F (vs ++ []) H1 Q E0
    rw [List.append_nil]
    refine ⟨by rw [D1.length]; exact hn _ _ _ _ ea, B.sub H1 G1, ds, r1, d, r', hT, bo.subB R1, rfl, R1.sub, fun _ => rfl, R1.row, R1.tab, D1, hf, fun v H2 G2 St rw2 tb2 D2 => ?_⟩
    exact q v H2 G2 (R1.step bo ⟨St.g, St.sub, St.k, St.n⟩ rw2 tb2) (S1.trans St.g) D2
  · cases hf
end
/-- THE RULE: a derivation of the body gives the promise -/
theorem body_D {CX : CXT} {P : Program} {w : World} {K : PySem.W.Frag} {T : List Addr} {mg : Str → Option Value} {base : Heap} {N : List Str} {qual : Str} {scope : Scope} {f : Addr} {cdv : Value} {A : Around} {outer : List Env} {s : Shared} {H : Hp} {E : XK} {body : List Stmt} {m : PL.Sm} {np n : Nat} {O' : List Nat}
    {vs : List V} {Q : VK} {E1 : XK} (hn : N.length = n) (D : DSs (cxOf CX P w K mg base N qual scope f cdv A outer s H E) T [] O' body m) (h : spD P w K T np (PL.runFn np n m) vs H Q E1) (hnp : np ≤ n) :
    ∃ t, PSs (cxOf CX P w K mg base N qual scope f cdv A outer s H E) body t ∧ t { nx := fun _ H' => Q .non H', rt := Q } (start N vs) H := by
  obtain ⟨hl, B, ds, r, d, r', hT, bo, h0, g0, ht, rw, tb, DA, hf, q⟩ := h
  subst hn
  have la := DA.length
  unfold PL.runFn at hf
  rw [if_pos (by omega)] at hf
  have R : Rel P w B [] (start N vs) H B.G0 (ds.map some ++ List.replicate (N.length - np) none) r := by
    refine ⟨?_, g0, Same.refl _, by rw [h0]; exact Keep.refl, fun _ z _ => z, rw, tb, fun b o z => (by rw [ht b] at z; cases z), fun i d hi hd => ?_, fun i hi => absurd hi (by simp), fun i j d e a hi => absurd hi (by simp)⟩
    · show _ = (vs.map some ++ List.replicate (N.length - vs.length) none).length
      rw [List.length_append, List.length_append, List.length_map, List.length_map, List.length_replicate, List.length_replicate]; omega
    · show ∃ v, (vs.map some ++ List.replicate (N.length - vs.length) none)[i]? = _ ∧ _
      by_cases hlt : i < ds.length
      · rw [List.getElem?_append_left (by simpa using hlt), List.getElem?_map] at hd
        have hd : ds[i]? = some d := by
          cases q1 : ds[i]? with
          | none => rw [q1] at hd; cases hd
          | some d1 => rw [q1] at hd; simp only [Option.map_some, Option.some.injEq] at hd; rw [hd]
        obtain ⟨v, e, D⟩ := DA.get hd
        exact ⟨v, by rw [List.getElem?_append_left (by rw [List.length_map, la]; exact hlt), List.getElem?_map, e]; rfl, D⟩
      · rw [List.getElem?_append_right (by simpa using hlt)] at hd
        rw [List.getElem?_replicate] at hd
        split at hd <;> cases hd
  split at hf
  · cases hf
  · rename_i s1 r1 em
    cases hf
    refine ⟨_, D, B, B.G0, _, r, _, hT, bo, R, em, fun s2 r2 σ2 H2 G2 he R2 S2 => ?_, fun d s2 r2 O2 σ2 H2 G2 v he => nomatch he⟩
    cases he
    exact q _ H2 G2 ⟨S2, R2.sub, by have := R2.k0; rw [h0] at this; exact this, fun b h1 h2 => R2.n0 b h1 (by rw [h0]; exact h2)⟩ R2.row R2.tab .non
  · rename_i d1 r1 em
    cases hf
    refine ⟨_, D, B, B.G0, _, r, _, hT, bo, R, em, fun s2 r2 σ2 H2 G2 he => (nomatch he), fun d s2 r2 O2 σ2 H2 G2 v he R2 S2 D2 => ?_⟩
    cases he
    exact q _ H2 G2 ⟨S2, R2.sub, by have := R2.k0; rw [h0] at this; exact this, fun b h1 h2 => R2.n0 b h1 (by rw [h0]; exact h2)⟩ R2.row R2.tab D2
end DL
end
section
set_option Elab.async false
set_option autoImplicit false
set_option linter.all false
set_option maxRecDepth 100000
set_option maxHeartbeats 1000000
/-! DL8: what the head tells of the defs. -/
namespace DL
open PySem PySem.Spec PyProof.Rows L2
abbrev ad (K : PySem.W.Frag) (x : Str) : Addr := He.fAd K (x, none)
abbrev cda (K : PySem.W.Frag) (x : Str) : Addr := He.codeOf K (x, none)
abbrev tba (K : PySem.W.Frag) (x : Str) : Addr := He.tabOf K (cda K x)
def frees : List Str := ["isinstance", "len", "all", "any", "sum", "tuple", "list", "sorted", "range", "enumerate", "zip", "min", "max", "abs", "int", "bool", "str"]
structure Ctx (P : Program) (w : World) (K : PySem.W.Frag) (mg : Str → Option Value) (base : Heap) (T : List Addr) (fd : Str → FuncData) : Prop where
  df : ∀ d ∈ FH.fn, FunD K d.name d.qual d.params d.body d.scope [] [] (He.fAd K d.at_) (fd d.name)
  gl : ∀ d ∈ FH.fn, mg d.name = some (.ref (He.fAd K d.at_))
  fr : ∀ x ∈ frees, mg x = none
  gcd : mg "gcd" = some (.builtin "math.gcd")
  mp : ∃ t, mg "MOST_PEOPLE" = some (.int 6 t)
  mw : ∃ t, mg "MOST_WEIGHT" = some (.int 60 t)
  tb : ∀ p ∈ FH.tf, GxR.TabB base mg (He.cT K p).1 (He.cT K p).2 ∧ (He.cT K p).2 ∈ T
theorem fnD {P : Program} {w : World} {K : PySem.W.Frag} {mg : Str → Option Value} {base : Heap} {T : List Addr} {fd : FuncData} {x qual : Str} {params : Arguments} {body : List Stmt} {scope : Scope} {N ps : List Str} {np n k : Nat} {m : PL.Sm} {O' : List Nat}
    (F : FunD K x qual params body scope [] [] (ad K x) fd) (S : FnScope N ps scope) (hps : ps.length = np) (hn : N.length = n) (hnp : np ≤ n)
    (D : ∀ (A : Around) (outer : List Env) (s : Shared) (H : Hp) (E : XK), Room k (A.deeper (envOfC qual scope s.heap.objs.size (ad K x) (.ref (cda K x)))) → DSs (cxOf CX0 P w K mg base N qual scope (ad K x) (.ref (cda K x)) A outer s H E) T [] O' body m) :
    FnOk P w K mg base CX0 (k + 1) (ad K x) fd ps (spD P w K T np (PL.runFn np n m)) := by
  obtain ⟨oc, od, dV, kV, doc, pm, an, cdv, ct, osl, rfl, lk, hcd, _, _⟩ := F.ex
  refine fn_of lk hcd S (fun vs H Q E h => by rw [h.1, hps]) fun A outer s H vs Q E hr hsp => ?_
  obtain ⟨c, rfl⟩ := He.codeIn_ref hcd
  have ec : cda K x = c := He.codeOf_eq (p := (x, none)) lk rfl
  subst ec
  exact body_D hn (D A outer s H E hr) hsp hnp
theorem fn0 {P : Program} {w : World} {K : PySem.W.Frag} {mg : Str → Option Value} {base : Heap} {T : List Addr} {f : Addr} {fd : FuncData} {ps : List Str} {np k : Nat} : FnOk P w K mg base CX0 k f fd ps (spD P w K T np fun _ _ => none) :=
  ⟨fun vs H Q E h => (by obtain ⟨_, B, ds, r, d, r', _, _, _, _, _, _, _, _, hf, _⟩ := h; cases hf), fun A outer s H args us vs Q E _ _ _ _ h => (by obtain ⟨_, B, ds, r, d, r', _, _, _, _, _, _, _, _, hf, _⟩ := h; cases hf)⟩
theorem dce {X : Cx} {T : List Addr} {O : List Nat} {e : Expr} {f : PL.Ex} (h : DC X T O e f) : DE X T O e f := h.pe
theorem dct {X : Cx} {T : List Addr} {O : List Nat} {e : Expr} {f : PL.Ex} (h : DC X T O e f) : DT X T O e (PL.tB f) := h.pt
abbrev Len (ra : PL.Ar) (n : Nat) : Prop := ∀ s r ds r', ra s r = some (ds, r') → ds.length = n
theorem len_nil : Len PL.aNil 0 := fun s r ds r' h => by cases h; rfl
theorem len_cons {a : PL.Ex} {ra : PL.Ar} {n : Nat} (h : Len ra n) : Len (PL.aCons a ra) (n + 1) := fun s r ds r' e => by
  obtain ⟨d, r1, es, _, e2, rfl⟩ := aCons_some e
  simp [h _ _ _ _ e2]
theorem hpX {CX : CXT} {P : Program} {w : World} {K : PySem.W.Frag} {mg : Str → Option Value} {base : Heap} {N : List Str} {qual : Str} {scope : Scope} {f : Addr} {cdv : Value} {A : Around} {outer : List Env} {s : Shared} {H : Hp} {E : XK} :
    PassesOwn (model (cxOf CX P w K mg base N qual scope f cdv A outer s H E).prog (cxOf CX P w K mg base N qual scope f cdv A outer s H E).w) (cxOf CX P w K mg base N qual scope f cdv A outer s H E).A (cxOf CX P w K mg base N qual scope f cdv A outer s H E).env (cxOf CX P w K mg base N qual scope f cdv A outer s H E).xe :=
  passes_of rfl
end DL
namespace L2
open PySem PySem.Spec PyProof.Rows
theorem Room.u65 {k : Nat} {A : Around} (r : Room k A) : A.units + 65 < cLine := by have := r.un; omega
theorem Room.u9 {k : Nat} {A : Around} (r : Room k A) : A.units + 9 < cLine := by have := r.un; omega
theorem Room.u1 {k : Nat} {A : Around} (r : Room k A) : A.units + 1 < cLine := by have := r.un; omega
end L2
end
section
set_option Elab.async false
set_option autoImplicit false
set_option linter.all false
set_option maxRecDepth 100000
set_option maxHeartbeats 4000000
/-! printed by gen.py: each def keeps the promise of its function on data -/
namespace DL
open PySem PySem.Spec PyProof.Rows L2
section
variable {P : Program} {w : World} {K : PySem.W.Frag} {mg : Str → Option Value} {base : Heap} {T : List Addr} {fd : Str → FuncData}
theorem Ctx.z_len (C : Ctx P w K mg base T fd) : mg "len" = none := C.fr _ (by decide +kernel)
theorem Ctx.z_tuple (C : Ctx P w K mg base T fd) : mg "tuple" = none := C.fr _ (by decide +kernel)
theorem Ctx.z_list (C : Ctx P w K mg base T fd) : mg "list" = none := C.fr _ (by decide +kernel)
theorem Ctx.z_sorted (C : Ctx P w K mg base T fd) : mg "sorted" = none := C.fr _ (by decide +kernel)
theorem Ctx.z_sum (C : Ctx P w K mg base T fd) : mg "sum" = none := C.fr _ (by decide +kernel)
theorem Ctx.z_max (C : Ctx P w K mg base T fd) : mg "max" = none := C.fr _ (by decide +kernel)
theorem Ctx.z_min (C : Ctx P w K mg base T fd) : mg "min" = none := C.fr _ (by decide +kernel)
theorem Ctx.z_abs (C : Ctx P w K mg base T fd) : mg "abs" = none := C.fr _ (by decide +kernel)
theorem Ctx.z_int (C : Ctx P w K mg base T fd) : mg "int" = none := C.fr _ (by decide +kernel)
theorem Ctx.z_isinstance (C : Ctx P w K mg base T fd) : mg "isinstance" = none := C.fr _ (by decide +kernel)
theorem Ctx.z_all (C : Ctx P w K mg base T fd) : mg "all" = none := C.fr _ (by decide +kernel)
theorem Ctx.z_any (C : Ctx P w K mg base T fd) : mg "any" = none := C.fr _ (by decide +kernel)
theorem Ctx.z_range (C : Ctx P w K mg base T fd) : mg "range" = none := C.fr _ (by decide +kernel)
theorem Ctx.z_enumerate (C : Ctx P w K mg base T fd) : mg "enumerate" = none := C.fr _ (by decide +kernel)
theorem Ctx.z_zip (C : Ctx P w K mg base T fd) : mg "zip" = none := C.fr _ (by decide +kernel)
theorem Ctx.z_bool (C : Ctx P w K mg base T fd) : mg "bool" = none := C.fr _ (by decide +kernel)
theorem Ctx.z_str (C : Ctx P w K mg base T fd) : mg "str" = none := C.fr _ (by decide +kernel)
theorem Ctx.f_is_in (C : Ctx P w K mg base T fd) : FunD K "is_in" "is_in" (defArgs FH.s_is_in) (defBody FH.s_is_in) (defScope FH.s_is_in) [] [] (ad K "is_in") (fd "is_in") := C.df FH.d_is_in (List.mem_of_getElem? (i := 0) rfl)
theorem Ctx.g_is_in (C : Ctx P w K mg base T fd) : mg "is_in" = some (.ref (ad K "is_in")) := C.gl FH.d_is_in (List.mem_of_getElem? (i := 0) rfl)
theorem Ctx.b_is_in (C : Ctx P w K mg base T fd) : Binds K (fd "is_in") ["value", "least", "most"] [] := C.f_is_in.bindsN fun _ _ _ _ _ _ us hl => match us, hl with | [_, _, _], _ => rfl
theorem Ctx.f_are_deputies (C : Ctx P w K mg base T fd) : FunD K "are_deputies" "are_deputies" (defArgs FH.s_are_deputies) (defBody FH.s_are_deputies) (defScope FH.s_are_deputies) [] [] (ad K "are_deputies") (fd "are_deputies") := C.df FH.d_are_deputies (List.mem_of_getElem? (i := 1) rfl)
theorem Ctx.g_are_deputies (C : Ctx P w K mg base T fd) : mg "are_deputies" = some (.ref (ad K "are_deputies")) := C.gl FH.d_are_deputies (List.mem_of_getElem? (i := 1) rfl)
theorem Ctx.b_are_deputies (C : Ctx P w K mg base T fd) : Binds K (fd "are_deputies") ["value"] [] := C.f_are_deputies.bindsN fun _ _ _ _ _ _ us hl => match us, hl with | [_], _ => rfl
theorem Ctx.f_need_deputies (C : Ctx P w K mg base T fd) : FunD K "need_deputies" "need_deputies" (defArgs FH.s_need_deputies) (defBody FH.s_need_deputies) (defScope FH.s_need_deputies) [] [] (ad K "need_deputies") (fd "need_deputies") := C.df FH.d_need_deputies (List.mem_of_getElem? (i := 2) rfl)
theorem Ctx.g_need_deputies (C : Ctx P w K mg base T fd) : mg "need_deputies" = some (.ref (ad K "need_deputies")) := C.gl FH.d_need_deputies (List.mem_of_getElem? (i := 2) rfl)
theorem Ctx.b_need_deputies (C : Ctx P w K mg base T fd) : Binds K (fd "need_deputies") ["deputies"] [] := C.f_need_deputies.bindsN fun _ _ _ _ _ _ us hl => match us, hl with | [_], _ => rfl
theorem Ctx.f_need_person (C : Ctx P w K mg base T fd) : FunD K "need_person" "need_person" (defArgs FH.s_need_person) (defBody FH.s_need_person) (defScope FH.s_need_person) [] [] (ad K "need_person") (fd "need_person") := C.df FH.d_need_person (List.mem_of_getElem? (i := 3) rfl)
theorem Ctx.g_need_person (C : Ctx P w K mg base T fd) : mg "need_person" = some (.ref (ad K "need_person")) := C.gl FH.d_need_person (List.mem_of_getElem? (i := 3) rfl)
theorem Ctx.b_need_person (C : Ctx P w K mg base T fd) : Binds K (fd "need_person") ["deputies", "person"] [] := C.f_need_person.bindsN fun _ _ _ _ _ _ us hl => match us, hl with | [_, _], _ => rfl
theorem Ctx.f_chain_of (C : Ctx P w K mg base T fd) : FunD K "chain_of" "chain_of" (defArgs FH.s_chain_of) (defBody FH.s_chain_of) (defScope FH.s_chain_of) [] [] (ad K "chain_of") (fd "chain_of") := C.df FH.d_chain_of (List.mem_of_getElem? (i := 4) rfl)
theorem Ctx.g_chain_of (C : Ctx P w K mg base T fd) : mg "chain_of" = some (.ref (ad K "chain_of")) := C.gl FH.d_chain_of (List.mem_of_getElem? (i := 4) rfl)
theorem Ctx.b_chain_of (C : Ctx P w K mg base T fd) : Binds K (fd "chain_of") ["deputies", "person"] [] := C.f_chain_of.bindsN fun _ _ _ _ _ _ us hl => match us, hl with | [_, _], _ => rfl
theorem Ctx.f_holder_of (C : Ctx P w K mg base T fd) : FunD K "holder_of" "holder_of" (defArgs FH.s_holder_of) (defBody FH.s_holder_of) (defScope FH.s_holder_of) [] [] (ad K "holder_of") (fd "holder_of") := C.df FH.d_holder_of (List.mem_of_getElem? (i := 5) rfl)
theorem Ctx.g_holder_of (C : Ctx P w K mg base T fd) : mg "holder_of" = some (.ref (ad K "holder_of")) := C.gl FH.d_holder_of (List.mem_of_getElem? (i := 5) rfl)
theorem Ctx.b_holder_of (C : Ctx P w K mg base T fd) : Binds K (fd "holder_of") ["deputies", "gone", "person"] [] := C.f_holder_of.bindsN fun _ _ _ _ _ _ us hl => match us, hl with | [_, _, _], _ => rfl
theorem Ctx.f_all_holders (C : Ctx P w K mg base T fd) : FunD K "all_holders" "all_holders" (defArgs FH.s_all_holders) (defBody FH.s_all_holders) (defScope FH.s_all_holders) [] [] (ad K "all_holders") (fd "all_holders") := C.df FH.d_all_holders (List.mem_of_getElem? (i := 6) rfl)
theorem Ctx.g_all_holders (C : Ctx P w K mg base T fd) : mg "all_holders" = some (.ref (ad K "all_holders")) := C.gl FH.d_all_holders (List.mem_of_getElem? (i := 6) rfl)
theorem Ctx.b_all_holders (C : Ctx P w K mg base T fd) : Binds K (fd "all_holders") ["deputies", "gone"] [] := C.f_all_holders.bindsN fun _ _ _ _ _ _ us hl => match us, hl with | [_, _], _ => rfl
theorem Ctx.f_is_order (C : Ctx P w K mg base T fd) : FunD K "is_order" "is_order" (defArgs FH.s_is_order) (defBody FH.s_is_order) (defScope FH.s_is_order) [] [] (ad K "is_order") (fd "is_order") := C.df FH.d_is_order (List.mem_of_getElem? (i := 7) rfl)
theorem Ctx.g_is_order (C : Ctx P w K mg base T fd) : mg "is_order" = some (.ref (ad K "is_order")) := C.gl FH.d_is_order (List.mem_of_getElem? (i := 7) rfl)
theorem Ctx.b_is_order (C : Ctx P w K mg base T fd) : Binds K (fd "is_order") ["size", "value"] [] := C.f_is_order.bindsN fun _ _ _ _ _ _ us hl => match us, hl with | [_, _], _ => rfl
theorem Ctx.f_stages (C : Ctx P w K mg base T fd) : FunD K "stages" "stages" (defArgs FH.s_stages) (defBody FH.s_stages) (defScope FH.s_stages) [] [] (ad K "stages") (fd "stages") := C.df FH.d_stages (List.mem_of_getElem? (i := 8) rfl)
theorem Ctx.g_stages (C : Ctx P w K mg base T fd) : mg "stages" = some (.ref (ad K "stages")) := C.gl FH.d_stages (List.mem_of_getElem? (i := 8) rfl)
theorem Ctx.b_stages (C : Ctx P w K mg base T fd) : Binds K (fd "stages") ["deputies", "order"] [] := C.f_stages.bindsN fun _ _ _ _ _ _ us hl => match us, hl with | [_, _], _ => rfl
theorem Ctx.f_handings_of (C : Ctx P w K mg base T fd) : FunD K "handings_of" "handings_of" (defArgs FH.s_handings_of) (defBody FH.s_handings_of) (defScope FH.s_handings_of) [] [] (ad K "handings_of") (fd "handings_of") := C.df FH.d_handings_of (List.mem_of_getElem? (i := 9) rfl)
theorem Ctx.g_handings_of (C : Ctx P w K mg base T fd) : mg "handings_of" = some (.ref (ad K "handings_of")) := C.gl FH.d_handings_of (List.mem_of_getElem? (i := 9) rfl)
theorem Ctx.b_handings_of (C : Ctx P w K mg base T fd) : Binds K (fd "handings_of") ["deputies", "order", "person"] [] := C.f_handings_of.bindsN fun _ _ _ _ _ _ us hl => match us, hl with | [_, _, _], _ => rfl
theorem Ctx.f_is_told (C : Ctx P w K mg base T fd) : FunD K "is_told" "is_told" (defArgs FH.s_is_told) (defBody FH.s_is_told) (defScope FH.s_is_told) [] [] (ad K "is_told") (fd "is_told") := C.df FH.d_is_told (List.mem_of_getElem? (i := 10) rfl)
theorem Ctx.g_is_told (C : Ctx P w K mg base T fd) : mg "is_told" = some (.ref (ad K "is_told")) := C.gl FH.d_is_told (List.mem_of_getElem? (i := 10) rfl)
theorem Ctx.b_is_told (C : Ctx P w K mg base T fd) : Binds K (fd "is_told") ["size", "value"] [] := C.f_is_told.bindsN fun _ _ _ _ _ _ us hl => match us, hl with | [_, _], _ => rfl
theorem Ctx.f_need_told (C : Ctx P w K mg base T fd) : FunD K "need_told" "need_told" (defArgs FH.s_need_told) (defBody FH.s_need_told) (defScope FH.s_need_told) [] [] (ad K "need_told") (fd "need_told") := C.df FH.d_need_told (List.mem_of_getElem? (i := 11) rfl)
theorem Ctx.g_need_told (C : Ctx P w K mg base T fd) : mg "need_told" = some (.ref (ad K "need_told")) := C.gl FH.d_need_told (List.mem_of_getElem? (i := 11) rfl)
theorem Ctx.b_need_told (C : Ctx P w K mg base T fd) : Binds K (fd "need_told") ["deputies", "told"] [] := C.f_need_told.bindsN fun _ _ _ _ _ _ us hl => match us, hl with | [_, _], _ => rfl
theorem Ctx.f_begins (C : Ctx P w K mg base T fd) : FunD K "begins" "begins" (defArgs FH.s_begins) (defBody FH.s_begins) (defScope FH.s_begins) [] [] (ad K "begins") (fd "begins") := C.df FH.d_begins (List.mem_of_getElem? (i := 12) rfl)
theorem Ctx.g_begins (C : Ctx P w K mg base T fd) : mg "begins" = some (.ref (ad K "begins")) := C.gl FH.d_begins (List.mem_of_getElem? (i := 12) rfl)
theorem Ctx.b_begins (C : Ctx P w K mg base T fd) : Binds K (fd "begins") ["deputies", "told"] [] := C.f_begins.bindsN fun _ _ _ _ _ _ us hl => match us, hl with | [_, _], _ => rfl
theorem Ctx.f_goes_on (C : Ctx P w K mg base T fd) : FunD K "goes_on" "goes_on" (defArgs FH.s_goes_on) (defBody FH.s_goes_on) (defScope FH.s_goes_on) [] [] (ad K "goes_on") (fd "goes_on") := C.df FH.d_goes_on (List.mem_of_getElem? (i := 13) rfl)
theorem Ctx.g_goes_on (C : Ctx P w K mg base T fd) : mg "goes_on" = some (.ref (ad K "goes_on")) := C.gl FH.d_goes_on (List.mem_of_getElem? (i := 13) rfl)
theorem Ctx.b_goes_on (C : Ctx P w K mg base T fd) : Binds K (fd "goes_on") ["deputies", "told", "come", "gone"] [] := C.f_goes_on.bindsN fun _ _ _ _ _ _ us hl => match us, hl with | [_, _, _, _], _ => rfl
theorem Ctx.f_ratio (C : Ctx P w K mg base T fd) : FunD K "ratio" "ratio" (defArgs FH.s_ratio) (defBody FH.s_ratio) (defScope FH.s_ratio) [] [] (ad K "ratio") (fd "ratio") := C.df FH.d_ratio (List.mem_of_getElem? (i := 14) rfl)
theorem Ctx.g_ratio (C : Ctx P w K mg base T fd) : mg "ratio" = some (.ref (ad K "ratio")) := C.gl FH.d_ratio (List.mem_of_getElem? (i := 14) rfl)
theorem Ctx.b_ratio (C : Ctx P w K mg base T fd) : Binds K (fd "ratio") ["top", "bottom"] [] := C.f_ratio.bindsN fun _ _ _ _ _ _ us hl => match us, hl with | [_, _], _ => rfl
theorem Ctx.f_plus (C : Ctx P w K mg base T fd) : FunD K "plus" "plus" (defArgs FH.s_plus) (defBody FH.s_plus) (defScope FH.s_plus) [] [] (ad K "plus") (fd "plus") := C.df FH.d_plus (List.mem_of_getElem? (i := 15) rfl)
theorem Ctx.g_plus (C : Ctx P w K mg base T fd) : mg "plus" = some (.ref (ad K "plus")) := C.gl FH.d_plus (List.mem_of_getElem? (i := 15) rfl)
theorem Ctx.b_plus (C : Ctx P w K mg base T fd) : Binds K (fd "plus") ["one", "other"] [] := C.f_plus.bindsN fun _ _ _ _ _ _ us hl => match us, hl with | [_, _], _ => rfl
theorem Ctx.f_by (C : Ctx P w K mg base T fd) : FunD K "by" "by" (defArgs FH.s_by) (defBody FH.s_by) (defScope FH.s_by) [] [] (ad K "by") (fd "by") := C.df FH.d_by (List.mem_of_getElem? (i := 16) rfl)
theorem Ctx.g_by (C : Ctx P w K mg base T fd) : mg "by" = some (.ref (ad K "by")) := C.gl FH.d_by (List.mem_of_getElem? (i := 16) rfl)
theorem Ctx.b_by (C : Ctx P w K mg base T fd) : Binds K (fd "by") ["one", "other"] [] := C.f_by.bindsN fun _ _ _ _ _ _ us hl => match us, hl with | [_, _], _ => rfl
theorem Ctx.f_are_weights (C : Ctx P w K mg base T fd) : FunD K "are_weights" "are_weights" (defArgs FH.s_are_weights) (defBody FH.s_are_weights) (defScope FH.s_are_weights) [] [] (ad K "are_weights") (fd "are_weights") := C.df FH.d_are_weights (List.mem_of_getElem? (i := 17) rfl)
theorem Ctx.g_are_weights (C : Ctx P w K mg base T fd) : mg "are_weights" = some (.ref (ad K "are_weights")) := C.gl FH.d_are_weights (List.mem_of_getElem? (i := 17) rfl)
theorem Ctx.b_are_weights (C : Ctx P w K mg base T fd) : Binds K (fd "are_weights") ["size", "value"] [] := C.f_are_weights.bindsN fun _ _ _ _ _ _ us hl => match us, hl with | [_, _], _ => rfl
theorem Ctx.f_need_weighted (C : Ctx P w K mg base T fd) : FunD K "need_weighted" "need_weighted" (defArgs FH.s_need_weighted) (defBody FH.s_need_weighted) (defScope FH.s_need_weighted) [] [] (ad K "need_weighted") (fd "need_weighted") := C.df FH.d_need_weighted (List.mem_of_getElem? (i := 18) rfl)
theorem Ctx.g_need_weighted (C : Ctx P w K mg base T fd) : mg "need_weighted" = some (.ref (ad K "need_weighted")) := C.gl FH.d_need_weighted (List.mem_of_getElem? (i := 18) rfl)
theorem Ctx.b_need_weighted (C : Ctx P w K mg base T fd) : Binds K (fd "need_weighted") ["deputies", "weights"] [] := C.f_need_weighted.bindsN fun _ _ _ _ _ _ us hl => match us, hl with | [_, _], _ => rfl
theorem Ctx.f_left_weight (C : Ctx P w K mg base T fd) : FunD K "left_weight" "left_weight" (defArgs FH.s_left_weight) (defBody FH.s_left_weight) (defScope FH.s_left_weight) [] [] (ad K "left_weight") (fd "left_weight") := C.df FH.d_left_weight (List.mem_of_getElem? (i := 19) rfl)
theorem Ctx.g_left_weight (C : Ctx P w K mg base T fd) : mg "left_weight" = some (.ref (ad K "left_weight")) := C.gl FH.d_left_weight (List.mem_of_getElem? (i := 19) rfl)
theorem Ctx.b_left_weight (C : Ctx P w K mg base T fd) : Binds K (fd "left_weight") ["weights", "gone"] [] := C.f_left_weight.bindsN fun _ _ _ _ _ _ us hl => match us, hl with | [_, _], _ => rfl
theorem Ctx.f_handed (C : Ctx P w K mg base T fd) : FunD K "handed" "handed" (defArgs FH.s_handed) (defBody FH.s_handed) (defScope FH.s_handed) [] [] (ad K "handed") (fd "handed") := C.df FH.d_handed (List.mem_of_getElem? (i := 20) rfl)
theorem Ctx.g_handed (C : Ctx P w K mg base T fd) : mg "handed" = some (.ref (ad K "handed")) := C.gl FH.d_handed (List.mem_of_getElem? (i := 20) rfl)
theorem Ctx.b_handed (C : Ctx P w K mg base T fd) : Binds K (fd "handed") ["deputies", "order"] [] := C.f_handed.bindsN fun _ _ _ _ _ _ us hl => match us, hl with | [_, _], _ => rfl
theorem Ctx.f_most_row (C : Ctx P w K mg base T fd) : FunD K "most_row" "most_row" (defArgs FH.s_most_row) (defBody FH.s_most_row) (defScope FH.s_most_row) [] [] (ad K "most_row") (fd "most_row") := C.df FH.d_most_row (List.mem_of_getElem? (i := 21) rfl)
theorem Ctx.g_most_row (C : Ctx P w K mg base T fd) : mg "most_row" = some (.ref (ad K "most_row")) := C.gl FH.d_most_row (List.mem_of_getElem? (i := 21) rfl)
theorem Ctx.b_most_row (C : Ctx P w K mg base T fd) : Binds K (fd "most_row") ["deputies"] [] := C.f_most_row.bindsN fun _ _ _ _ _ _ us hl => match us, hl with | [_], _ => rfl
theorem Ctx.f_most_handings (C : Ctx P w K mg base T fd) : FunD K "most_handings" "most_handings" (defArgs FH.s_most_handings) (defBody FH.s_most_handings) (defScope FH.s_most_handings) [] [] (ad K "most_handings") (fd "most_handings") := C.df FH.d_most_handings (List.mem_of_getElem? (i := 22) rfl)
theorem Ctx.g_most_handings (C : Ctx P w K mg base T fd) : mg "most_handings" = some (.ref (ad K "most_handings")) := C.gl FH.d_most_handings (List.mem_of_getElem? (i := 22) rfl)
theorem Ctx.b_most_handings (C : Ctx P w K mg base T fd) : Binds K (fd "most_handings") ["deputies"] [] := C.f_most_handings.bindsN fun _ _ _ _ _ _ us hl => match us, hl with | [_], _ => rfl
theorem Ctx.f_shows_most_handings (C : Ctx P w K mg base T fd) : FunD K "shows_most_handings" "shows_most_handings" (defArgs FH.s_shows_most_handings) (defBody FH.s_shows_most_handings) (defScope FH.s_shows_most_handings) [] [] (ad K "shows_most_handings") (fd "shows_most_handings") := C.df FH.d_shows_most_handings (List.mem_of_getElem? (i := 23) rfl)
theorem Ctx.g_shows_most_handings (C : Ctx P w K mg base T fd) : mg "shows_most_handings" = some (.ref (ad K "shows_most_handings")) := C.gl FH.d_shows_most_handings (List.mem_of_getElem? (i := 23) rfl)
theorem Ctx.b_shows_most_handings (C : Ctx P w K mg base T fd) : Binds K (fd "shows_most_handings") ["deputies", "value"] [] := C.f_shows_most_handings.bindsN fun _ _ _ _ _ _ us hl => match us, hl with | [_, _], _ => rfl
theorem Ctx.f_all_orders (C : Ctx P w K mg base T fd) : FunD K "all_orders" "all_orders" (defArgs FH.s_all_orders) (defBody FH.s_all_orders) (defScope FH.s_all_orders) [] [] (ad K "all_orders") (fd "all_orders") := C.df FH.d_all_orders (List.mem_of_getElem? (i := 24) rfl)
theorem Ctx.g_all_orders (C : Ctx P w K mg base T fd) : mg "all_orders" = some (.ref (ad K "all_orders")) := C.gl FH.d_all_orders (List.mem_of_getElem? (i := 24) rfl)
theorem Ctx.b_all_orders (C : Ctx P w K mg base T fd) : Binds K (fd "all_orders") ["size"] [] := C.f_all_orders.bindsN fun _ _ _ _ _ _ us hl => match us, hl with | [_], _ => rfl
theorem Ctx.f_with_names (C : Ctx P w K mg base T fd) : FunD K "with_names" "with_names" (defArgs FH.s_with_names) (defBody FH.s_with_names) (defScope FH.s_with_names) [] [] (ad K "with_names") (fd "with_names") := C.df FH.d_with_names (List.mem_of_getElem? (i := 25) rfl)
theorem Ctx.g_with_names (C : Ctx P w K mg base T fd) : mg "with_names" = some (.ref (ad K "with_names")) := C.gl FH.d_with_names (List.mem_of_getElem? (i := 25) rfl)
theorem Ctx.b_with_names (C : Ctx P w K mg base T fd) : Binds K (fd "with_names") ["deputies", "order"] [] := C.f_with_names.bindsN fun _ _ _ _ _ _ us hl => match us, hl with | [_, _], _ => rfl
theorem Ctx.f_shape_of (C : Ctx P w K mg base T fd) : FunD K "shape_of" "shape_of" (defArgs FH.s_shape_of) (defBody FH.s_shape_of) (defScope FH.s_shape_of) [] [] (ad K "shape_of") (fd "shape_of") := C.df FH.d_shape_of (List.mem_of_getElem? (i := 26) rfl)
theorem Ctx.g_shape_of (C : Ctx P w K mg base T fd) : mg "shape_of" = some (.ref (ad K "shape_of")) := C.gl FH.d_shape_of (List.mem_of_getElem? (i := 26) rfl)
theorem Ctx.b_shape_of (C : Ctx P w K mg base T fd) : Binds K (fd "shape_of") ["deputies"] [] := C.f_shape_of.bindsN fun _ _ _ _ _ _ us hl => match us, hl with | [_], _ => rfl
theorem Ctx.f_shape (C : Ctx P w K mg base T fd) : FunD K "shape" "shape" (defArgs FH.s_shape) (defBody FH.s_shape) (defScope FH.s_shape) [] [] (ad K "shape") (fd "shape") := C.df FH.d_shape (List.mem_of_getElem? (i := 27) rfl)
theorem Ctx.g_shape (C : Ctx P w K mg base T fd) : mg "shape" = some (.ref (ad K "shape")) := C.gl FH.d_shape (List.mem_of_getElem? (i := 27) rfl)
theorem Ctx.b_shape (C : Ctx P w K mg base T fd) : Binds K (fd "shape") ["deputies"] [] := C.f_shape.bindsN fun _ _ _ _ _ _ us hl => match us, hl with | [_], _ => rfl
theorem Ctx.f_alike (C : Ctx P w K mg base T fd) : FunD K "alike" "alike" (defArgs FH.s_alike) (defBody FH.s_alike) (defScope FH.s_alike) [] [] (ad K "alike") (fd "alike") := C.df FH.d_alike (List.mem_of_getElem? (i := 28) rfl)
theorem Ctx.g_alike (C : Ctx P w K mg base T fd) : mg "alike" = some (.ref (ad K "alike")) := C.gl FH.d_alike (List.mem_of_getElem? (i := 28) rfl)
theorem Ctx.b_alike (C : Ctx P w K mg base T fd) : Binds K (fd "alike") ["one", "other"] [] := C.f_alike.bindsN fun _ _ _ _ _ _ us hl => match us, hl with | [_, _], _ => rfl
theorem Ctx.f_own_names (C : Ctx P w K mg base T fd) : FunD K "own_names" "own_names" (defArgs FH.s_own_names) (defBody FH.s_own_names) (defScope FH.s_own_names) [] [] (ad K "own_names") (fd "own_names") := C.df FH.d_own_names (List.mem_of_getElem? (i := 29) rfl)
theorem Ctx.g_own_names (C : Ctx P w K mg base T fd) : mg "own_names" = some (.ref (ad K "own_names")) := C.gl FH.d_own_names (List.mem_of_getElem? (i := 29) rfl)
theorem Ctx.b_own_names (C : Ctx P w K mg base T fd) : Binds K (fd "own_names") ["deputies"] [] := C.f_own_names.bindsN fun _ _ _ _ _ _ us hl => match us, hl with | [_], _ => rfl
theorem Ctx.f_told_chance (C : Ctx P w K mg base T fd) : FunD K "told_chance" "told_chance" (defArgs FH.s_told_chance) (defBody FH.s_told_chance) (defScope FH.s_told_chance) [] [] (ad K "told_chance") (fd "told_chance") := C.df FH.d_told_chance (List.mem_of_getElem? (i := 30) rfl)
theorem Ctx.g_told_chance (C : Ctx P w K mg base T fd) : mg "told_chance" = some (.ref (ad K "told_chance")) := C.gl FH.d_told_chance (List.mem_of_getElem? (i := 30) rfl)
theorem Ctx.b_told_chance (C : Ctx P w K mg base T fd) : Binds K (fd "told_chance") ["deputies", "weights", "told"] [] := C.f_told_chance.bindsN fun _ _ _ _ _ _ us hl => match us, hl with | [_, _, _], _ => rfl
theorem Ctx.f_handing_chances_by (C : Ctx P w K mg base T fd) : FunD K "handing_chances_by" "handing_chances_by" (defArgs FH.s_handing_chances_by) (defBody FH.s_handing_chances_by) (defScope FH.s_handing_chances_by) [] [] (ad K "handing_chances_by") (fd "handing_chances_by") := C.df FH.d_handing_chances_by (List.mem_of_getElem? (i := 31) rfl)
theorem Ctx.g_handing_chances_by (C : Ctx P w K mg base T fd) : mg "handing_chances_by" = some (.ref (ad K "handing_chances_by")) := C.gl FH.d_handing_chances_by (List.mem_of_getElem? (i := 31) rfl)
theorem Ctx.b_handing_chances_by (C : Ctx P w K mg base T fd) : Binds K (fd "handing_chances_by") ["deputies", "weights", "person"] [] := C.f_handing_chances_by.bindsN fun _ _ _ _ _ _ us hl => match us, hl with | [_, _, _], _ => rfl
theorem Ctx.f__law_taken (C : Ctx P w K mg base T fd) : FunD K "_law_taken" "_law_taken" (defArgs FH.s__law_taken) (defBody FH.s__law_taken) (defScope FH.s__law_taken) [] [] (ad K "_law_taken") (fd "_law_taken") := C.df FH.d__law_taken (List.mem_of_getElem? (i := 32) rfl)
theorem Ctx.g__law_taken (C : Ctx P w K mg base T fd) : mg "_law_taken" = some (.ref (ad K "_law_taken")) := C.gl FH.d__law_taken (List.mem_of_getElem? (i := 32) rfl)
theorem Ctx.b__law_taken (C : Ctx P w K mg base T fd) : Binds K (fd "_law_taken") ["_law_row", "_law_many"] [] := C.f__law_taken.bindsN fun _ _ _ _ _ _ us hl => match us, hl with | [_, _], _ => rfl
theorem Ctx.f__law_pick (C : Ctx P w K mg base T fd) : FunD K "_law_pick" "_law_pick" (defArgs FH.s__law_pick) (defBody FH.s__law_pick) (defScope FH.s__law_pick) [] [] (ad K "_law_pick") (fd "_law_pick") := C.df FH.d__law_pick (List.mem_of_getElem? (i := 33) rfl)
theorem Ctx.g__law_pick (C : Ctx P w K mg base T fd) : mg "_law_pick" = some (.ref (ad K "_law_pick")) := C.gl FH.d__law_pick (List.mem_of_getElem? (i := 33) rfl)
theorem Ctx.b__law_pick (C : Ctx P w K mg base T fd) : Binds K (fd "_law_pick") ["_law_row", "_law_things"] [] := C.f__law_pick.bindsN fun _ _ _ _ _ _ us hl => match us, hl with | [_, _], _ => rfl
theorem Ctx.f__law_alike (C : Ctx P w K mg base T fd) : FunD K "_law_alike" "_law_alike" (defArgs FH.s__law_alike) (defBody FH.s__law_alike) (defScope FH.s__law_alike) [] [] (ad K "_law_alike") (fd "_law_alike") := C.df FH.d__law_alike (List.mem_of_getElem? (i := 34) rfl)
theorem Ctx.g__law_alike (C : Ctx P w K mg base T fd) : mg "_law_alike" = some (.ref (ad K "_law_alike")) := C.gl FH.d__law_alike (List.mem_of_getElem? (i := 34) rfl)
theorem Ctx.b__law_alike (C : Ctx P w K mg base T fd) : Binds K (fd "_law_alike") ["_law_found", "_law_due"] [] := C.f__law_alike.bindsN fun _ _ _ _ _ _ us hl => match us, hl with | [_, _], _ => rfl
theorem Ctx.f__law_ratio (C : Ctx P w K mg base T fd) : FunD K "_law_ratio" "_law_ratio" (defArgs FH.s__law_ratio) (defBody FH.s__law_ratio) (defScope FH.s__law_ratio) [] [] (ad K "_law_ratio") (fd "_law_ratio") := C.df FH.d__law_ratio (List.mem_of_getElem? (i := 35) rfl)
theorem Ctx.g__law_ratio (C : Ctx P w K mg base T fd) : mg "_law_ratio" = some (.ref (ad K "_law_ratio")) := C.gl FH.d__law_ratio (List.mem_of_getElem? (i := 35) rfl)
theorem Ctx.b__law_ratio (C : Ctx P w K mg base T fd) : Binds K (fd "_law_ratio") ["_law_top", "_law_bottom"] [] := C.f__law_ratio.bindsN fun _ _ _ _ _ _ us hl => match us, hl with | [_, _], _ => rfl
theorem Ctx.f__law_plus (C : Ctx P w K mg base T fd) : FunD K "_law_plus" "_law_plus" (defArgs FH.s__law_plus) (defBody FH.s__law_plus) (defScope FH.s__law_plus) [] [] (ad K "_law_plus") (fd "_law_plus") := C.df FH.d__law_plus (List.mem_of_getElem? (i := 36) rfl)
theorem Ctx.g__law_plus (C : Ctx P w K mg base T fd) : mg "_law_plus" = some (.ref (ad K "_law_plus")) := C.gl FH.d__law_plus (List.mem_of_getElem? (i := 36) rfl)
theorem Ctx.b__law_plus (C : Ctx P w K mg base T fd) : Binds K (fd "_law_plus") ["_law_one", "_law_other"] [] := C.f__law_plus.bindsN fun _ _ _ _ _ _ us hl => match us, hl with | [_, _], _ => rfl
theorem Ctx.f__law_by (C : Ctx P w K mg base T fd) : FunD K "_law_by" "_law_by" (defArgs FH.s__law_by) (defBody FH.s__law_by) (defScope FH.s__law_by) [] [] (ad K "_law_by") (fd "_law_by") := C.df FH.d__law_by (List.mem_of_getElem? (i := 37) rfl)
theorem Ctx.g__law_by (C : Ctx P w K mg base T fd) : mg "_law_by" = some (.ref (ad K "_law_by")) := C.gl FH.d__law_by (List.mem_of_getElem? (i := 37) rfl)
theorem Ctx.b__law_by (C : Ctx P w K mg base T fd) : Binds K (fd "_law_by") ["_law_one", "_law_other"] [] := C.f__law_by.bindsN fun _ _ _ _ _ _ us hl => match us, hl with | [_, _], _ => rfl
theorem Ctx.f__law_deputies (C : Ctx P w K mg base T fd) : FunD K "_law_deputies" "_law_deputies" (defArgs FH.s__law_deputies) (defBody FH.s__law_deputies) (defScope FH.s__law_deputies) [] [] (ad K "_law_deputies") (fd "_law_deputies") := C.df FH.d__law_deputies (List.mem_of_getElem? (i := 38) rfl)
theorem Ctx.g__law_deputies (C : Ctx P w K mg base T fd) : mg "_law_deputies" = some (.ref (ad K "_law_deputies")) := C.gl FH.d__law_deputies (List.mem_of_getElem? (i := 38) rfl)
theorem Ctx.b__law_deputies (C : Ctx P w K mg base T fd) : Binds K (fd "_law_deputies") ["_law_row", "_law_size"] [] := C.f__law_deputies.bindsN fun _ _ _ _ _ _ us hl => match us, hl with | [_, _], _ => rfl
theorem Ctx.f__law_chain (C : Ctx P w K mg base T fd) : FunD K "_law_chain" "_law_chain" (defArgs FH.s__law_chain) (defBody FH.s__law_chain) (defScope FH.s__law_chain) [] [] (ad K "_law_chain") (fd "_law_chain") := C.df FH.d__law_chain (List.mem_of_getElem? (i := 39) rfl)
theorem Ctx.g__law_chain (C : Ctx P w K mg base T fd) : mg "_law_chain" = some (.ref (ad K "_law_chain")) := C.gl FH.d__law_chain (List.mem_of_getElem? (i := 39) rfl)
theorem Ctx.b__law_chain (C : Ctx P w K mg base T fd) : Binds K (fd "_law_chain") ["_law_deputies_here", "_law_person"] [] := C.f__law_chain.bindsN fun _ _ _ _ _ _ us hl => match us, hl with | [_, _], _ => rfl
theorem Ctx.f__law_holder (C : Ctx P w K mg base T fd) : FunD K "_law_holder" "_law_holder" (defArgs FH.s__law_holder) (defBody FH.s__law_holder) (defScope FH.s__law_holder) [] [] (ad K "_law_holder") (fd "_law_holder") := C.df FH.d__law_holder (List.mem_of_getElem? (i := 40) rfl)
theorem Ctx.g__law_holder (C : Ctx P w K mg base T fd) : mg "_law_holder" = some (.ref (ad K "_law_holder")) := C.gl FH.d__law_holder (List.mem_of_getElem? (i := 40) rfl)
theorem Ctx.b__law_holder (C : Ctx P w K mg base T fd) : Binds K (fd "_law_holder") ["_law_deputies_here", "_law_gone", "_law_person"] [] := C.f__law_holder.bindsN fun _ _ _ _ _ _ us hl => match us, hl with | [_, _, _], _ => rfl
theorem Ctx.f__law_orders (C : Ctx P w K mg base T fd) : FunD K "_law_orders" "_law_orders" (defArgs FH.s__law_orders) (defBody FH.s__law_orders) (defScope FH.s__law_orders) [] [] (ad K "_law_orders") (fd "_law_orders") := C.df FH.d__law_orders (List.mem_of_getElem? (i := 41) rfl)
theorem Ctx.g__law_orders (C : Ctx P w K mg base T fd) : mg "_law_orders" = some (.ref (ad K "_law_orders")) := C.gl FH.d__law_orders (List.mem_of_getElem? (i := 41) rfl)
theorem Ctx.b__law_orders (C : Ctx P w K mg base T fd) : Binds K (fd "_law_orders") ["_law_some"] [] := C.f__law_orders.bindsN fun _ _ _ _ _ _ us hl => match us, hl with | [_], _ => rfl
theorem Ctx.f__law_order (C : Ctx P w K mg base T fd) : FunD K "_law_order" "_law_order" (defArgs FH.s__law_order) (defBody FH.s__law_order) (defScope FH.s__law_order) [] [] (ad K "_law_order") (fd "_law_order") := C.df FH.d__law_order (List.mem_of_getElem? (i := 42) rfl)
theorem Ctx.g__law_order (C : Ctx P w K mg base T fd) : mg "_law_order" = some (.ref (ad K "_law_order")) := C.gl FH.d__law_order (List.mem_of_getElem? (i := 42) rfl)
theorem Ctx.b__law_order (C : Ctx P w K mg base T fd) : Binds K (fd "_law_order") ["_law_row", "_law_size"] [] := C.f__law_order.bindsN fun _ _ _ _ _ _ us hl => match us, hl with | [_, _], _ => rfl
theorem Ctx.f__law_handed (C : Ctx P w K mg base T fd) : FunD K "_law_handed" "_law_handed" (defArgs FH.s__law_handed) (defBody FH.s__law_handed) (defScope FH.s__law_handed) [] [] (ad K "_law_handed") (fd "_law_handed") := C.df FH.d__law_handed (List.mem_of_getElem? (i := 43) rfl)
theorem Ctx.g__law_handed (C : Ctx P w K mg base T fd) : mg "_law_handed" = some (.ref (ad K "_law_handed")) := C.gl FH.d__law_handed (List.mem_of_getElem? (i := 43) rfl)
theorem Ctx.b__law_handed (C : Ctx P w K mg base T fd) : Binds K (fd "_law_handed") ["_law_deputies_here", "_law_order_here", "_law_person"] [] := C.f__law_handed.bindsN fun _ _ _ _ _ _ us hl => match us, hl with | [_, _, _], _ => rfl
theorem Ctx.f_law (C : Ctx P w K mg base T fd) : FunD K "law" "law" (defArgs FH.s_law) (defBody FH.s_law) (defScope FH.s_law) [] [] (ad K "law") (fd "law") := C.df FH.d_law (List.mem_of_getElem? (i := 44) rfl)
theorem Ctx.g_law (C : Ctx P w K mg base T fd) : mg "law" = some (.ref (ad K "law")) := C.gl FH.d_law (List.mem_of_getElem? (i := 44) rfl)
theorem Ctx.b_law (C : Ctx P w K mg base T fd) : Binds K (fd "law") ["_law_script"] [] := C.f_law.bindsN fun _ _ _ _ _ _ us hl => match us, hl with | [_], _ => rfl
theorem Ctx.t_are_deputies (C : Ctx P w K mg base T fd) : GxR.TabB base mg (cda K "are_deputies") (tba K "are_deputies") ∧ tba K "are_deputies" ∈ T := C.tb ("are_deputies", none) (List.mem_of_getElem? (i := 0) rfl)
theorem Ctx.t_is_order (C : Ctx P w K mg base T fd) : GxR.TabB base mg (cda K "is_order") (tba K "is_order") ∧ tba K "is_order" ∈ T := C.tb ("is_order", none) (List.mem_of_getElem? (i := 1) rfl)
theorem Ctx.t_is_told (C : Ctx P w K mg base T fd) : GxR.TabB base mg (cda K "is_told") (tba K "is_told") ∧ tba K "is_told" ∈ T := C.tb ("is_told", none) (List.mem_of_getElem? (i := 2) rfl)
theorem Ctx.t_begins (C : Ctx P w K mg base T fd) : GxR.TabB base mg (cda K "begins") (tba K "begins") ∧ tba K "begins" ∈ T := C.tb ("begins", none) (List.mem_of_getElem? (i := 3) rfl)
theorem Ctx.t_are_weights (C : Ctx P w K mg base T fd) : GxR.TabB base mg (cda K "are_weights") (tba K "are_weights") ∧ tba K "are_weights" ∈ T := C.tb ("are_weights", none) (List.mem_of_getElem? (i := 4) rfl)
theorem Ctx.t_left_weight (C : Ctx P w K mg base T fd) : GxR.TabB base mg (cda K "left_weight") (tba K "left_weight") ∧ tba K "left_weight" ∈ T := C.tb ("left_weight", none) (List.mem_of_getElem? (i := 5) rfl)
theorem Ctx.t_handed (C : Ctx P w K mg base T fd) : GxR.TabB base mg (cda K "handed") (tba K "handed") ∧ tba K "handed" ∈ T := C.tb ("handed", none) (List.mem_of_getElem? (i := 6) rfl)
theorem Ctx.t_told_chance (C : Ctx P w K mg base T fd) : GxR.TabB base mg (cda K "told_chance") (tba K "told_chance") ∧ tba K "told_chance" ∈ T := C.tb ("told_chance", none) (List.mem_of_getElem? (i := 7) rfl)
end
end DL
end
section
set_option Elab.async false
set_option autoImplicit false
set_option linter.all false
set_option maxRecDepth 100000
set_option maxHeartbeats 4000000
/-! the draws' def, by hand -/
namespace DL
open PySem PySem.Spec PyProof.Rows L2
/-- an expression that gives v and leaves the heap -/
def At (t : TE) (σ : St) (H : Hp) (v : V) : Prop := ∀ Q : VK, Q v H → t σ H Q
section
variable {K : PySem.W.Frag} {σ : St} {H : Hp} {ta tb : TE} {x y v : V} {i j : Int} {p : Addr} {xs : List V}
theorem at_var {k : Nat} (h : σ[k]? = some (some v)) : At (tVar k) σ H v := fun Q q => ⟨v, h, q⟩
theorem at_c : At (tC v) σ H v := fun Q q => q
theorem at_ix (ha : At ta σ H (.ref p)) (hS : SqL K H p xs) (hb : At tb σ H (.int i)) (hv : atI xs i = some v) : At (tOp (rIxL K) ta tb) σ H v := fun Q q => ha _ (hb _ ⟨p, xs, i, v, rfl, rfl, hS, hv, q⟩)
theorem at_op0 {g : Int → Int → V} (ha : At ta σ H (.int i)) (hb : At tb σ H (.int j)) : At (tOp (rI0 g) ta tb) σ H (g i j) := fun Q q => ha _ (hb _ ⟨i, j, rfl, rfl, q⟩)
theorem at_op {C : Int → Int → Prop} {g : Int → Int → V} (ha : At ta σ H (.int i)) (hb : At tb σ H (.int j)) (hC : C i j) : At (tOp (rI C g) ta tb) σ H (g i j) := fun Q q => ha _ (hb _ ⟨i, j, rfl, rfl, hC, q⟩)
theorem at_int (ha : At ta σ H (.int i)) : At (tCB (fun xs H Q => (∃ i, xs = [V.int i] ∧ Q (.int i) H) ∨ ∃ k, xs = [V.bl k] ∧ Q (.int (if k then 1 else 0)) H) (tCons ta tNil)) σ H (.int i) := fun Q q => ha _ (.inl ⟨i, rfl, q⟩)
theorem at_len (ha : At ta σ H (.ref p)) (hS : SqL K H p xs) : At (tCB (fun xs H Q => ∃ p ys, xs = [V.ref p] ∧ (SqL K H p ys ∨ SqT K H p ys) ∧ Q (.int ys.length) H) (tCons ta tNil)) σ H (.int xs.length) := fun Q q => ha _ ⟨p, xs, rfl, .inl hS, q⟩
theorem sq_if {te : TE} {A B U : TS} {D : Ends} {b : Bool} (h : At te σ H (.bl b)) (q : if b = true then A { D with nx := U D } σ H else B { D with nx := U D } σ H) : tSeq (tIfS (tTest te) A B) U D σ H := h _ ⟨b, rfl, q⟩
theorem sq_set {te : TE} {U : TS} {D : Ends} {k : Int} {n : Nat} (h : At te σ H v) (h0 : σ[0]? = some (some (.ref p))) (hp : H p = some (.lst xs)) (hk : ixN xs.length k = some n) (q : U D σ (upd H p (.lst (xs.set n v)))) :
    tSeq (tAsg te (gSub (tVar 0) (tC (.int k)) rSetL)) U D σ H := h _ ⟨_, h0, ⟨p, xs, k, n, rfl, rfl, hp, hk, q⟩⟩
theorem sq_asg {te : TE} {U : TS} {D : Ends} {n : Nat} (h : At te σ H v) (q : U D (σ.set n (some v)) H) : tSeq (tAsg te (gName n)) U D σ H := h _ q
theorem sq_ret {te : TE} {U : TS} {D : Ends} (h : At te σ H v) (q : D.rt v H) : tSeq (tRet te) U D σ H := h _ q
end
variable {P : Program} {w : World} {K : PySem.W.Frag} {mg : Str → Option Value} {base : Heap} {T : List Addr} {fd : Str → FuncData}
def N__law_taken : List Str := ["_law_row", "_law_many", "_law_found", "_law_cell"]
theorem nd__law_taken : (N__law_taken).Nodup := by decide +kernel
theorem sc__law_taken : FnScope N__law_taken ["_law_row", "_law_many"] (defScope FH.s__law_taken) := ⟨rfl, rfl, rfl, nd__law_taken, rfl, by decide +kernel, by decide +kernel⟩
/-- the list of the draws -/
def rowL (scr : Addr) (a b c : Int) : HO := .lst [.ref scr, .int a, .int b, .int c]
theorem ix_row (scr : Addr) (a b c : Int) : atI [V.ref scr, .int a, .int b, .int c] 0 = some (.ref scr) ∧ atI [V.ref scr, .int a, .int b, .int c] 1 = some (.int a) ∧ atI [V.ref scr, .int a, .int b, .int c] 2 = some (.int b) ∧ atI [V.ref scr, .int a, .int b, .int c] 3 = some (.int c) := ⟨rfl, rfl, rfl, rfl⟩
theorem ok__law_taken (C : Ctx P w K mg base T fd) : FnOk P w K mg base CX0 1 (ad K "_law_taken") (fd "_law_taken") ["_law_row", "_law_many"] (spD P w K T 2 PL.fTaken) := by
  have nd := nd__law_taken
  refine C.f__law_taken.ok sc__law_taken (fun vs H Q E h => h.1) (fun cdv A outer s H vs Q E hr h => ⟨_, (pss_cons (ps_if (pt_cmpR op_gt (pe_ix ix_list (pe_var (i := 0) rfl (Or.inl rfl)) pe_int (fun _ _ => rfl)) pe_int (nomark _)) (pss_cons (ps_set (i := 2) nd rfl (Or.inl rfl) (pe_op op_modN (pe_callTy call_int1 rfl C.z_int boot_int (pa_cons (pe_ix ix_list (pe_var (i := 0) rfl (Or.inl rfl)) pe_int (fun _ _ => rfl)) pa_nil)) (pe_var (i := 1) rfl (Or.inl rfl))))
 (pss_cons (ps_asg (pe_op op_fdiv (pe_ix ix_list (pe_var (i := 0) rfl (Or.inl rfl)) pe_int (fun _ _ => rfl)) (pe_var (i := 1) rfl (Or.inl rfl))) (pg_sub (pe_var (i := 0) rfl (Or.inl rfl)) pe_int set_list))
 (pss_cons (ps_ret (pe_var (i := 2) rfl (Or.inl rfl)))
 pss_nil))) pss_nil)
 (pss_cons (ps_asg (pe_op op_add (pe_ix ix_list (pe_var (i := 0) rfl (Or.inl rfl)) pe_int (fun _ _ => rfl)) pe_int) (pg_sub (pe_var (i := 0) rfl (Or.inl rfl)) pe_int set_list))
 (pss_cons (ps_if (pt_cmpR op_gt (pe_ix ix_list (pe_var (i := 0) rfl (Or.inl rfl)) pe_int (fun _ _ => rfl)) (pe_callB call_len_seq rfl C.z_len PySem.boot_len (pa_cons (pe_ix ix_list (pe_var (i := 0) rfl (Or.inl rfl)) pe_int (fun _ _ => rfl)) pa_nil)) (nomark _)) (pss_cons (ps_asg (pe_op op_modN (pe_callTy call_int1 rfl C.z_int boot_int (pa_cons (pe_op op_add (pe_op op_mul (pe_ix ix_list (pe_var (i := 0) rfl (Or.inl rfl)) pe_int (fun _ _ => rfl)) pe_int) pe_int) pa_nil)) pe_int) (pg_sub (pe_var (i := 0) rfl (Or.inl rfl)) pe_int set_list))
 (pss_cons (ps_ret (pe_op op_modN (pe_callTy call_int1 rfl C.z_int boot_int (pa_cons (pe_op op_fdiv (pe_ix ix_list (pe_var (i := 0) rfl (Or.inl rfl)) pe_int (fun _ _ => rfl)) pe_int) pa_nil)) (pe_var (i := 1) rfl (Or.inl rfl))))
 pss_nil)) pss_nil)
 (pss_cons (ps_set (i := 3) nd rfl (Or.inl rfl) (pe_ix ix_list (pe_ix ix_list (pe_var (i := 0) rfl (Or.inl rfl)) pe_int (fun _ _ => rfl)) (pe_op op_sub (pe_ix ix_list (pe_var (i := 0) rfl (Or.inl rfl)) pe_int (fun _ _ => rfl)) pe_int) (fun _ _ => rfl)))
 (pss_cons (ps_asg (pe_op op_modN (pe_callTy call_int1 rfl C.z_int boot_int (pa_cons (pe_op op_add (pe_op op_add (pe_op op_mul (pe_ix ix_list (pe_var (i := 0) rfl (Or.inl rfl)) pe_int (fun _ _ => rfl)) pe_int) (pe_var (i := 3) rfl (Or.inl rfl))) pe_int) pa_nil)) pe_int) (pg_sub (pe_var (i := 0) rfl (Or.inl rfl)) pe_int set_list))
 (pss_cons (ps_if (pt_cmpR op_ge (pe_var (i := 3) rfl (Or.inl rfl)) (pe_op op_pow pe_int pe_int) (nomark _)) (pss_cons (ps_asg (pe_op op_fdiv (pe_var (i := 3) rfl (Or.inl rfl)) (pe_var (i := 1) rfl (Or.inl rfl))) (pg_sub (pe_var (i := 0) rfl (Or.inl rfl)) pe_int set_list))
 pss_nil) pss_nil)
 (pss_cons (ps_ret (pe_op op_modN (pe_callTy call_int1 rfl C.z_int boot_int (pa_cons (pe_var (i := 3) rfl (Or.inl rfl)) pa_nil)) (pe_var (i := 1) rfl (Or.inl rfl))))
 pss_nil))))))), ?_⟩)
  obtain ⟨hl, B, ds, r, d, r', hT, bo, h0, g0, ht, rw, tbs, DA, hf, q⟩ := h
  subst hT h0
  have key : ∃ m : Int, ds = [.row, .int m] ∧ 0 < m ∧ m < 1000 ∧ d = .int (PL.take r m).1 ∧ r' = (PL.take r m).2 := by
    unfold PL.fTaken at hf
    split at hf
    · rename_i h1 h2 m
      split at hf
      · rename_i hm
        cases hf
        exact ⟨m, rfl, hm.1, hm.2, rfl, rfl⟩
      · cases hf
    · cases hf
  obtain ⟨m, rfl, m0, m1, rfl, rfl⟩ := key
  cases DA with
  | cons D1 D2 =>
    cases D1
    cases D2 with
    | cons D3 D4 =>
      cases D3
      cases D4
      obtain ⟨rc, rH⟩ := rw
      have fin : ∀ (n : Int) (H' : Hp), n = (PL.take r m).1 → (∀ x, x ≠ B.r0 → H' x = B.H0 x) → (PL.take r m).2.cells = r.cells → H' B.r0 = some (.lst [.ref B.scr, .int ((PL.take r m).2.pos : Nat), .int (PL.take r m).2.seed, .int (PL.take r m).2.rest]) → Q (.int n) H' := fun n H' e1 e2 e3 e4 => by
        subst e1
        refine q _ H' B.G0 ⟨Same.refl _, fun b o hb => ?_, fun b o hb h1 _ => by rw [e2 b h1]; exact hb, fun b hb _ => hb⟩ ⟨e3.trans rc, e4⟩ (fun p hp => ?_) (.int _)
        · rw [e2 b (fun e => by rw [e, bo.r0'] at hb; cases hb)]
          exact g0 b o hb
        · obtain ⟨ps, h1, h2⟩ := tbs p hp
          exact ⟨ps, by rw [e2 p (fun e => bo.r0t (e ▸ hp))]; exact h1, h2⟩
      have fm : ∀ i : Int, i.fmod m = i % m := fun i => Int.fmod_eq_emod_of_nonneg i (by omega)
      have fs : ∀ i : Int, i.fmod 2147483647 = i % 2147483647 := fun i => Int.fmod_eq_emod_of_nonneg i (by decide)
      have cm : CDiv 0 m := ⟨m0, by omega⟩
      have hm0 : m ≠ 0 := by omega
      have sL : SqL K B.H0 B.r0 [.ref B.scr, .int (r.pos : Nat), .int r.seed, .int r.rest] := .inl (.inl rH)
      have st : start N__law_taken [.ref B.r0, .int m] = [some (.ref B.r0), some (.int m), none, none] := rfl
      rw [st]
      refine sq_if (at_op0 (at_ix (at_var rfl) sL at_c rfl) at_c) ?_
      by_cases c1 : 0 < r.rest
      · rw [decide_eq_true c1]
        refine iteT ?_
        have tk : PL.take r m = (r.rest % m, { r with rest := r.rest / m }) := by unfold PL.take; rw [if_pos c1]
        refine sq_asg (at_op (at_int (at_ix (at_var rfl) sL at_c rfl)) (at_var rfl) hm0) ?_
        refine sq_set (n := 3) (at_op (at_ix (at_var rfl) sL at_c rfl) (at_var rfl) (show CDiv r.rest m from cm)) rfl rH rfl ?_
        refine sq_ret (at_var rfl) (fin _ _ (by rw [tk, fm]) (fun x hx => upd_ne hx) (by rw [tk]) ?_)
        rw [tk, upd_same] <;> rfl
      · rw [decide_eq_false c1]
        refine iteF ?_
        refine sq_set (n := 1) (at_op0 (at_ix (at_var rfl) sL at_c rfl) at_c) rfl rH rfl ?_
        show tSeq _ _ _ _ (upd B.H0 B.r0 (.lst [.ref B.scr, .int ((r.pos : Nat) + 1), .int r.seed, .int r.rest]))
        generalize hH1 : upd B.H0 B.r0 (.lst [.ref B.scr, .int ((r.pos : Nat) + 1), .int r.seed, .int r.rest]) = H1
        have r1 : H1 B.r0 = some (.lst [.ref B.scr, .int ((r.pos : Nat) + 1), .int r.seed, .int r.rest]) := by rw [← hH1, upd_same]
        have k1 : ∀ x, x ≠ B.r0 → H1 x = B.H0 x := fun x hx => by rw [← hH1]; exact upd_ne hx
        have s1 : SqL K H1 B.r0 [.ref B.scr, .int ((r.pos : Nat) + 1), .int r.seed, .int r.rest] := .inl (.inl r1)
        have scrL : ∀ H', (∀ x, x ≠ B.r0 → H' x = B.H0 x) → SqL K H' B.scr (B.cells.map V.int) := fun H' k => by
          rcases bo.scr with ⟨h, hne, _⟩ | h
          · rcases h with h | ⟨o, h⟩
            · exact .inl (.inl (by rw [k _ hne]; exact h))
            · exact .inl (.inr ⟨o, by rw [k _ hne]; exact h⟩)
          · exact h _
        refine sq_if (at_op0 (at_ix (at_var rfl) s1 at_c rfl) (at_len (at_ix (at_var rfl) s1 at_c rfl) (scrL H1 k1))) ?_
        have el : ((B.cells.map V.int).length : Int) = (r.cells.length : Int) := by rw [rc, List.length_map]
        rw [el]
        by_cases c2 : r.cells.length < r.pos + 1
        · rw [decide_eq_true (by omega)]
          refine iteT ?_
          have tk : PL.take r m = (((r.seed * 48271 + 11) % 2147483647) / 7 % m, { r with pos := r.pos + 1, seed := (r.seed * 48271 + 11) % 2147483647 }) := by unfold PL.take; rw [if_neg c1, if_pos c2]
          refine sq_set (n := 2) (at_op (at_int (at_op0 (at_op (at_ix (at_var rfl) s1 at_c rfl) at_c (.inr ⟨by decide, by decide⟩)) at_c)) at_c (by decide)) rfl r1 rfl ?_
          rw [fs]
          show tSeq _ _ _ _ (upd H1 B.r0 (.lst [.ref B.scr, .int ((r.pos : Nat) + 1), .int ((r.seed * 48271 + 11) % 2147483647), .int r.rest]))
          generalize hH2 : upd H1 B.r0 (.lst [.ref B.scr, .int ((r.pos : Nat) + 1), .int ((r.seed * 48271 + 11) % 2147483647), .int r.rest]) = H2
          have r2 : H2 B.r0 = some (.lst [.ref B.scr, .int ((r.pos : Nat) + 1), .int ((r.seed * 48271 + 11) % 2147483647), .int r.rest]) := by rw [← hH2, upd_same]
          have k2 : ∀ x, x ≠ B.r0 → H2 x = B.H0 x := fun x hx => by rw [← hH2, upd_ne hx]; exact k1 x hx
          have s2 : SqL K H2 B.r0 [.ref B.scr, .int ((r.pos : Nat) + 1), .int ((r.seed * 48271 + 11) % 2147483647), .int r.rest] := .inl (.inl r2)
          refine sq_ret (at_op (at_int (at_op (at_ix (at_var rfl) s2 at_c rfl) at_c ⟨by decide, by decide⟩)) (at_var rfl) hm0) ?_
          refine fin _ _ (by rw [tk, fm]) k2 (by rw [tk]) ?_
          rw [tk, r2] <;> rfl
        · rw [decide_eq_false (by omega)]
          refine iteF ?_
          have hlt : r.pos < B.cells.length := by rw [← rc]; omega
          obtain ⟨c, hc⟩ : ∃ c, B.cells[r.pos]? = some c := ⟨B.cells[r.pos], List.getElem?_eq_getElem hlt⟩
          have hgc : r.cells.getD r.pos 0 = c := by rw [rc, List.getD_eq_getElem?_getD, hc]; rfl
          have tk : PL.take r m = (c % m, { r with pos := r.pos + 1, seed := (r.seed * 48271 + c + 11) % 2147483647, rest := if 10 ^ 18 ≤ c then c / m else r.rest }) := by unfold PL.take; rw [if_neg c1, if_neg c2]; simp only [hgc]
          have hat : atI (B.cells.map V.int) (((r.pos : Nat) : Int) + 1 - 1) = some (.int c) := ix_at (j := r.pos) (by
            unfold PL.ixOf
            rw [if_pos (by omega), if_pos (by rw [List.length_map]; omega)]
            congr 1
            omega) (by rw [List.getElem?_map, hc]; rfl)
          refine sq_asg (at_ix (at_ix (at_var rfl) s1 at_c rfl) (scrL H1 k1) (at_op0 (at_ix (at_var rfl) s1 at_c rfl) at_c) hat) ?_
          refine sq_set (n := 2) (at_op (at_int (at_op0 (at_op0 (at_op (at_ix (at_var rfl) s1 at_c rfl) at_c (.inr ⟨by decide, by decide⟩)) (at_var rfl)) at_c)) at_c (by decide)) rfl r1 rfl ?_
          rw [fs]
          show tSeq _ _ _ _ (upd H1 B.r0 (.lst [.ref B.scr, .int ((r.pos : Nat) + 1), .int ((r.seed * 48271 + c + 11) % 2147483647), .int r.rest]))
          generalize hH2 : upd H1 B.r0 (.lst [.ref B.scr, .int ((r.pos : Nat) + 1), .int ((r.seed * 48271 + c + 11) % 2147483647), .int r.rest]) = H2
          have r2 : H2 B.r0 = some (.lst [.ref B.scr, .int ((r.pos : Nat) + 1), .int ((r.seed * 48271 + c + 11) % 2147483647), .int r.rest]) := by rw [← hH2, upd_same]
          have k2 : ∀ x, x ≠ B.r0 → H2 x = B.H0 x := fun x hx => by rw [← hH2, upd_ne hx]; exact k1 x hx
          refine sq_if (at_op0 (at_var rfl) (at_op at_c at_c ⟨by decide, by decide, by decide⟩)) ?_
          have e18 : (10 : Int) ^ (18 : Int).toNat = 10 ^ 18 := rfl
          rw [e18]
          by_cases c3 : (10 : Int) ^ 18 ≤ c
          · rw [decide_eq_true c3]
            refine iteT ?_
            refine sq_set (n := 3) (at_op (at_var rfl) (at_var rfl) (show CDiv c m from cm)) rfl r2 rfl ?_
            dsimp only [tNext]
            refine sq_ret (at_op (at_int (at_var rfl)) (at_var rfl) hm0) ?_
            refine fin _ _ (by rw [tk, fm]) (fun x hx => by rw [upd_ne hx]; exact k2 x hx) (by rw [tk]) ?_
            rw [tk, upd_same, if_pos c3] <;> rfl
          · rw [decide_eq_false c3]
            refine iteF ?_
            dsimp only [tNext]
            refine sq_ret (at_op (at_int (at_var rfl)) (at_var rfl) hm0) ?_
            refine fin _ _ (by rw [tk, fm]) k2 (by rw [tk]) ?_
            rw [tk, r2, if_neg c3] <;> rfl
end DL
end
section
set_option Elab.async false
set_option autoImplicit false
set_option linter.all false
set_option maxRecDepth 100000
set_option maxHeartbeats 4000000
/-! printed by gen.py: each def keeps the promise of its function on data -/
namespace DL
open PySem PySem.Spec PyProof.Rows L2
section
variable {P : Program} {w : World} {K : PySem.W.Frag} {mg : Str → Option Value} {base : Heap} {T : List Addr} {fd : Str → FuncData}
def N_is_in : List Str := ["value", "least", "most"]
theorem nd_is_in : (N_is_in).Nodup := by decide +kernel
theorem sc_is_in : FnScope N_is_in ["value", "least", "most"] (defScope FH.s_is_in) := ⟨rfl, rfl, rfl, nd_is_in, rfl, by decide +kernel, by decide +kernel⟩
theorem ok_is_in (C : Ctx P w K mg base T fd) : FnOk P w K mg base CX0 1 (ad K "is_in") (fd "is_in") ["value", "least", "most"] (spD P w K T 3 PL.F_is_in) := by
  have nd := nd_is_in
  exact fnD (k := 0) (O' := []) C.f_is_in sc_is_in rfl rfl (by decide) (fun A outer s H E hr =>
 (dss_cons (ds_ret (O' := []) (de_and (de_is .tInt (hg := rfl) (hm := C.z_isinstance) (hg2 := rfl) (hm2 := C.z_int) (ha := (de_var 0))) (de_and (de_not (de_is .tBool (hg := rfl) (hm := C.z_isinstance) (hg2 := rfl) (hm2 := C.z_bool) (ha := (de_var 0)))) (de_one (dce (dc_chain d_oLe d_oLe (de_var 1) (de_var 0) (de_var 2)))))))
 dss_nil))
def N_are_deputies : List Str := ["value", "person", "one"]
theorem nd_are_deputies : (N_are_deputies).Nodup := by decide +kernel
theorem sc_are_deputies : FnScope N_are_deputies ["value"] (defScope FH.s_are_deputies) := ⟨rfl, rfl, rfl, nd_are_deputies, rfl, by decide +kernel, by decide +kernel⟩
theorem ok_are_deputies (C : Ctx P w K mg base T fd) : FnOk P w K mg base CX0 3 (ad K "are_deputies") (fd "are_deputies") ["value"] (spD P w K T 1 PL.F_are_deputies) := by
  have nd := nd_are_deputies
  exact fnD (k := 2) (O' := []) C.f_are_deputies sc_are_deputies rfl rfl (by decide) (fun A outer s H E hr =>
 (dss_cons (ds_if (dt_pw (dp_or (dt_not (dt_b (de_is .tTup (hg := rfl) (hm := C.z_isinstance) (hg2 := rfl) (hm2 := C.z_tuple) (ha := (de_var 0))))) (dp_or1 (dt_not (dct (dc_chain d_oLe d_oLe de_int (de_len rfl C.z_len (de_var 0)) (de_glob rfl C.mp))))))) (dss_cons (ds_ret (O' := []) de_bl)
 dss_nil) dss_nil)
 (dss_cons (ds_ret (O' := []) (de_all (own := [("person", 1), ("one", 2)]) rfl hr rfl C.z_all C.t_are_deputies.1 C.t_are_deputies.2 rfl (blkOk_by (N := N_are_deputies) (sc := (defScope FH.s_are_deputies)) (own := [("person", 1), ("one", 2)]) (by decide +kernel)) ⟨rfl, by decide +kernel, rfl⟩ nd (dw_enum rfl C.z_enumerate (de_var 0)) (fun _ _ _ _ _ _ _ hr => (dg_tup rfl (dgs_cons (dg_var 1 nd) (dgs_cons (dg_var 2 nd) dgs_nil)))) (fun _ _ _ _ _ _ _ hr => dts_nil) (fun _ _ _ _ _ _ _ hr => (de_and (de_call ((ok_is_in C).mono (by decide)) hr rfl C.g_is_in C.f_is_in.kp C.b_is_in (da_cons (de_var 2) (da_cons (de_neg de_int) (da_cons (de_bin d_oSub (de_len rfl C.z_len (de_var 0)) de_int) da_nil))) (len_cons (len_cons (len_cons len_nil)))) (de_one (dce (dc_cmp (d_oNe hr.units) (de_var 2) (de_var 1) (nomark _))))))))
 dss_nil)))
def N_need_deputies : List Str := ["deputies"]
theorem nd_need_deputies : (N_need_deputies).Nodup := by decide +kernel
theorem sc_need_deputies : FnScope N_need_deputies ["deputies"] (defScope FH.s_need_deputies) := ⟨rfl, rfl, rfl, nd_need_deputies, rfl, by decide +kernel, by decide +kernel⟩
theorem ok_need_deputies (C : Ctx P w K mg base T fd) : FnOk P w K mg base CX0 4 (ad K "need_deputies") (fd "need_deputies") ["deputies"] (spD P w K T 1 PL.F_need_deputies) := by
  have nd := nd_need_deputies
  exact fnD (k := 3) (O' := []) C.f_need_deputies sc_need_deputies rfl rfl (by decide) (fun A outer s H E hr =>
 (dss_cons (ds_if (dt_not (dt_b (de_call ((ok_are_deputies C).mono (by decide)) hr rfl C.g_are_deputies C.f_are_deputies.kp C.b_are_deputies (da_cons (de_var 0) da_nil) (len_cons len_nil)))) (dss_cons (ds_never (O' := []))
 dss_nil) dss_nil)
 dss_nil))
def N_need_person : List Str := ["deputies", "person"]
theorem nd_need_person : (N_need_person).Nodup := by decide +kernel
theorem sc_need_person : FnScope N_need_person ["deputies", "person"] (defScope FH.s_need_person) := ⟨rfl, rfl, rfl, nd_need_person, rfl, by decide +kernel, by decide +kernel⟩
theorem ok_need_person (C : Ctx P w K mg base T fd) : FnOk P w K mg base CX0 2 (ad K "need_person") (fd "need_person") ["deputies", "person"] (spD P w K T 2 PL.F_need_person) := by
  have nd := nd_need_person
  exact fnD (k := 1) (O' := []) C.f_need_person sc_need_person rfl rfl (by decide) (fun A outer s H E hr =>
 (dss_cons (ds_if (dt_not (dt_b (de_call ((ok_is_in C).mono (by decide)) hr rfl C.g_is_in C.f_is_in.kp C.b_is_in (da_cons (de_var 1) (da_cons de_int (da_cons (de_bin d_oSub (de_len rfl C.z_len (de_var 0)) de_int) da_nil))) (len_cons (len_cons (len_cons len_nil)))))) (dss_cons (ds_never (O' := []))
 dss_nil) dss_nil)
 dss_nil))
def N_chain_of : List Str := ["deputies", "person", "found", "here"]
theorem nd_chain_of : (N_chain_of).Nodup := by decide +kernel
theorem sc_chain_of : FnScope N_chain_of ["deputies", "person"] (defScope FH.s_chain_of) := ⟨rfl, rfl, rfl, nd_chain_of, rfl, by decide +kernel, by decide +kernel⟩
theorem ok_chain_of (C : Ctx P w K mg base T fd) : FnOk P w K mg base CX0 1 (ad K "chain_of") (fd "chain_of") ["deputies", "person"] (spD P w K T 2 PL.F_chain_of) := by
  have nd := nd_chain_of
  exact fnD (k := 0) (O' := []) C.f_chain_of sc_chain_of rfl rfl (by decide) (fun A outer s H E hr =>
 (dss_cons (ds_parO 0 2 (parN2 rfl nd mono_tAo (da_own (df_lst da_nil) (da_cons (de_var 1) da_nil))))
 (dss_cons (ds_while 0 hpX (dt_pw (dp_and (dct (dc_cmp (d_oNe hr.units) (de_var 3) (de_neg de_int) (nomark _))) (dp_and1 (dct (dc_notInO 2 (de_var 3)))))) (dss_cons (ds_app 2 (de_var 3))
 (dss_cons (ds_set 3 nd (de_ix (de_var 0) (de_var 3)))
 dss_nil)))
 (dss_pub 2 (O1 := []) (h := (dss_cons (ds_ret (O' := []) (de_var 2))
 dss_nil))))))
def N_holder_of : List Str := ["deputies", "gone", "person", "one"]
theorem nd_holder_of : (N_holder_of).Nodup := by decide +kernel
theorem sc_holder_of : FnScope N_holder_of ["deputies", "gone", "person"] (defScope FH.s_holder_of) := ⟨rfl, rfl, rfl, nd_holder_of, rfl, by decide +kernel, by decide +kernel⟩
theorem ok_holder_of (C : Ctx P w K mg base T fd) : FnOk P w K mg base CX0 2 (ad K "holder_of") (fd "holder_of") ["deputies", "gone", "person"] (spD P w K T 3 PL.F_holder_of) := by
  have nd := nd_holder_of
  exact fnD (k := 1) (O' := []) C.f_holder_of sc_holder_of rfl rfl (by decide) (fun A outer s H E hr =>
 (dss_cons (ds_for (vs := [3]) hpX rfl (dw_seq (de_call ((ok_chain_of C).mono (by decide)) hr rfl C.g_chain_of C.f_chain_of.kp C.b_chain_of (da_cons (de_var 0) (da_cons (de_var 2) da_nil)) (len_cons (len_cons len_nil)))) (dg_var 3 nd) (dss_cons (ds_if (dct (dc_cmp (d_oNotIn) (de_var 3) (de_var 1) (by rfl))) (dss_cons (ds_ret (O' := []) (de_var 3))
 dss_nil) dss_nil)
 dss_nil))
 (dss_cons (ds_ret (O' := []) (de_neg de_int))
 dss_nil)))
def N_all_holders : List Str := ["deputies", "gone", "person"]
theorem nd_all_holders : (N_all_holders).Nodup := by decide +kernel
theorem sc_all_holders : FnScope N_all_holders ["deputies", "gone"] (defScope FH.s_all_holders) := ⟨rfl, rfl, rfl, nd_all_holders, rfl, by decide +kernel, by decide +kernel⟩
theorem ok_all_holders (C : Ctx P w K mg base T fd) : FnOk P w K mg base CX0 3 (ad K "all_holders") (fd "all_holders") ["deputies", "gone"] (spD P w K T 2 PL.F_all_holders) := by
  have nd := nd_all_holders
  exact fnD (k := 2) (O' := []) C.f_all_holders sc_all_holders rfl rfl (by decide) (fun A outer s H E hr =>
 (dss_cons (ds_ret (O' := []) (de_of (df_comp (own := [("person", 2)]) rfl nd (dw_range rfl C.z_range (de_len rfl C.z_len (de_var 0))) (blkOk_by (N := N_all_holders) (sc := (defScope FH.s_all_holders)) (own := [("person", 2)]) (by decide +kernel)) (fun _ _ _ _ _ => (dg_var 2 nd)) (fun _ _ _ _ _ => dts_nil) (fun _ _ _ _ _ => (de_call ((ok_holder_of C).mono (by decide)) hr rfl C.g_holder_of C.f_holder_of.kp C.b_holder_of (da_cons (de_var 0) (da_cons (de_var 1) (da_cons (de_var 2) da_nil))) (len_cons (len_cons (len_cons len_nil))))))))
 dss_nil))
def N_is_order : List Str := ["size", "value", "one"]
theorem nd_is_order : (N_is_order).Nodup := by decide +kernel
theorem sc_is_order : FnScope N_is_order ["size", "value"] (defScope FH.s_is_order) := ⟨rfl, rfl, rfl, nd_is_order, rfl, by decide +kernel, by decide +kernel⟩
theorem ok_is_order (C : Ctx P w K mg base T fd) : FnOk P w K mg base CX0 3 (ad K "is_order") (fd "is_order") ["size", "value"] (spD P w K T 2 PL.F_is_order) := by
  have nd := nd_is_order
  exact fnD (k := 2) (O' := []) C.f_is_order sc_is_order rfl rfl (by decide) (fun A outer s H E hr =>
 (dss_cons (ds_if (dt_pw (dp_or (dt_not (dt_b (de_is .tTup (hg := rfl) (hm := C.z_isinstance) (hg2 := rfl) (hm2 := C.z_tuple) (ha := (de_var 1))))) (dp_or1 (dt_not (dt_b (de_all (own := [("one", 2)]) rfl hr rfl C.z_all C.t_is_order.1 C.t_is_order.2 rfl (blkOk_by (N := N_is_order) (sc := (defScope FH.s_is_order)) (own := [("one", 2)]) (by decide +kernel)) ⟨rfl, by decide +kernel, rfl⟩ nd (dw_seq (de_var 1)) (fun _ _ _ _ _ _ _ hr => (dg_var 2 nd)) (fun _ _ _ _ _ _ _ hr => dts_nil) (fun _ _ _ _ _ _ _ hr => (de_call ((ok_is_in C).mono (by decide)) hr rfl C.g_is_in C.f_is_in.kp C.b_is_in (da_cons (de_var 2) (da_cons de_int (da_cons (de_bin d_oSub (de_var 0) de_int) da_nil))) (len_cons (len_cons (len_cons len_nil))))))))))) (dss_cons (ds_ret (O' := []) de_bl)
 dss_nil) dss_nil)
 (dss_cons (ds_ret (O' := []) (dce (dc_cmp (d_oEq hr.units) (de_len rfl C.z_len (de_of (de_compI (own := [("one", 2)]) rfl nd (dw_seq (de_var 1)) (blkOk_by (N := N_is_order) (sc := (defScope FH.s_is_order)) (own := [("one", 2)]) (by decide +kernel)) (fun _ _ _ _ _ => (dg_var 2 nd)) (fun _ _ _ _ _ => (de_var 2)) (fun _ _ _ _ _ => de_bl)))) (de_len rfl C.z_len (de_var 1)) (nomark _))))
 dss_nil)))
def N_stages : List Str := ["deputies", "order", "many"]
theorem nd_stages : (N_stages).Nodup := by decide +kernel
theorem sc_stages : FnScope N_stages ["deputies", "order"] (defScope FH.s_stages) := ⟨rfl, rfl, rfl, nd_stages, rfl, by decide +kernel, by decide +kernel⟩
theorem ok_stages (C : Ctx P w K mg base T fd) : FnOk P w K mg base CX0 4 (ad K "stages") (fd "stages") ["deputies", "order"] (spD P w K T 2 PL.F_stages) := by
  have nd := nd_stages
  exact fnD (k := 3) (O' := []) C.f_stages sc_stages rfl rfl (by decide) (fun A outer s H E hr =>
 (dss_cons (ds_ret (O' := []) (de_of (df_comp (own := [("many", 2)]) rfl nd (dw_range rfl C.z_range (de_bin d_oAdd (de_len rfl C.z_len (de_var 1)) de_int)) (blkOk_by (N := N_stages) (sc := (defScope FH.s_stages)) (own := [("many", 2)]) (by decide +kernel)) (fun _ _ _ _ _ => (dg_var 2 nd)) (fun _ _ _ _ _ => dts_nil) (fun _ _ _ _ _ => (de_call ((ok_all_holders C).mono (by decide)) hr rfl C.g_all_holders C.f_all_holders.kp C.b_all_holders (da_cons (de_var 0) (da_cons (de_to (de_var 1) (de_var 2)) da_nil)) (len_cons (len_cons len_nil)))))))
 dss_nil))
def N_handings_of : List Str := ["deputies", "order", "person", "found", "stage"]
theorem nd_handings_of : (N_handings_of).Nodup := by decide +kernel
theorem sc_handings_of : FnScope N_handings_of ["deputies", "order", "person"] (defScope FH.s_handings_of) := ⟨rfl, rfl, rfl, nd_handings_of, rfl, by decide +kernel, by decide +kernel⟩
theorem ok_handings_of (C : Ctx P w K mg base T fd) : FnOk P w K mg base CX0 5 (ad K "handings_of") (fd "handings_of") ["deputies", "order", "person"] (spD P w K T 3 PL.F_handings_of) := by
  have nd := nd_handings_of
  exact fnD (k := 4) (O' := []) C.f_handings_of sc_handings_of rfl rfl (by decide) (fun A outer s H E hr =>
 (dss_cons (dso_set 3 nd (df_lst da_nil))
 (dss_cons (ds_for (vs := [4]) hpX rfl (dw_seq (de_call ((ok_stages C).mono (by decide)) hr rfl C.g_stages C.f_stages.kp C.b_stages (da_cons (de_var 0) (da_cons (de_var 1) da_nil)) (len_cons (len_cons len_nil)))) (dg_var 4 nd) (dss_cons (ds_if (dct (dc_notInO 3 (de_ix (de_var 4) (de_var 2)))) (dss_cons (ds_app 3 (de_ix (de_var 4) (de_var 2)))
 dss_nil) dss_nil)
 dss_nil))
 (dss_pub 3 (O1 := []) (h := (dss_cons (ds_ret (O' := []) (de_var 3))
 dss_nil))))))
def N_is_told : List Str := ["size", "value", "some", "one"]
theorem nd_is_told : (N_is_told).Nodup := by decide +kernel
theorem sc_is_told : FnScope N_is_told ["size", "value"] (defScope FH.s_is_told) := ⟨rfl, rfl, rfl, nd_is_told, rfl, by decide +kernel, by decide +kernel⟩
theorem ok_is_told (C : Ctx P w K mg base T fd) : FnOk P w K mg base CX0 3 (ad K "is_told") (fd "is_told") ["size", "value"] (spD P w K T 2 PL.F_is_told) := by
  have nd := nd_is_told
  exact fnD (k := 2) (O' := []) C.f_is_told sc_is_told rfl rfl (by decide) (fun A outer s H E hr =>
 (dss_cons (ds_if (dt_pw (dp_or (dt_not (dt_b (de_is .tTup (hg := rfl) (hm := C.z_isinstance) (hg2 := rfl) (hm2 := C.z_tuple) (ha := (de_var 1))))) (dp_or (dct (dc_cmp (d_oNe hr.units) (de_len rfl C.z_len (de_var 1)) de_int (nomark _))) (dp_or1 (dt_not (dt_b (de_call ((ok_is_in C).mono (by decide)) hr rfl C.g_is_in C.f_is_in.kp C.b_is_in (da_cons (de_ix (de_var 1) de_int) (da_cons de_int (da_cons (de_bin d_oSub (de_var 0) de_int) da_nil))) (len_cons (len_cons (len_cons len_nil)))))))))) (dss_cons (ds_ret (O' := []) de_bl)
 dss_nil) dss_nil)
 (dss_cons (ds_set 2 nd (de_ix (de_var 1) de_int))
 (dss_cons (ds_if (dt_pw (dp_or (dt_not (dt_b (de_is .tTup (hg := rfl) (hm := C.z_isinstance) (hg2 := rfl) (hm2 := C.z_tuple) (ha := (de_var 2))))) (dp_or (dt_not (dt_tr (de_var 2))) (dp_or1 (dt_not (dt_b (de_all (own := [("one", 3)]) rfl hr rfl C.z_all C.t_is_told.1 C.t_is_told.2 rfl (blkOk_by (N := N_is_told) (sc := (defScope FH.s_is_told)) (own := [("one", 3)]) (by decide +kernel)) ⟨rfl, by decide +kernel, rfl⟩ nd (dw_seq (de_var 2)) (fun _ _ _ _ _ _ _ hr => (dg_var 3 nd)) (fun _ _ _ _ _ _ _ hr => dts_nil) (fun _ _ _ _ _ _ _ hr => (de_call ((ok_is_in C).mono (by decide)) hr rfl C.g_is_in C.f_is_in.kp C.b_is_in (da_cons (de_var 3) (da_cons (de_neg de_int) (da_cons (de_bin d_oSub (de_var 0) de_int) da_nil))) (len_cons (len_cons (len_cons len_nil)))))))))))) (dss_cons (ds_ret (O' := []) de_bl)
 dss_nil) dss_nil)
 (dss_cons (ds_ret (O' := []) (de_and (dce (dc_cmp (d_oEq hr.units) (de_len rfl C.z_len (de_of (de_compI (own := [("one", 3)]) rfl nd (dw_seq (de_var 2)) (blkOk_by (N := N_is_told) (sc := (defScope FH.s_is_told)) (own := [("one", 3)]) (by decide +kernel)) (fun _ _ _ _ _ => (dg_var 3 nd)) (fun _ _ _ _ _ => (de_var 3)) (fun _ _ _ _ _ => de_bl)))) (de_len rfl C.z_len (de_var 2)) (nomark _))) (de_one (dce (dc_cmp (d_oNotIn) (de_neg de_int) (de_to (de_var 2) (de_neg de_int)) (by rfl))))))
 dss_nil)))))
def N_need_told : List Str := ["deputies", "told", "index", "one"]
theorem nd_need_told : (N_need_told).Nodup := by decide +kernel
theorem sc_need_told : FnScope N_need_told ["deputies", "told"] (defScope FH.s_need_told) := ⟨rfl, rfl, rfl, nd_need_told, rfl, by decide +kernel, by decide +kernel⟩
theorem ok_need_told (C : Ctx P w K mg base T fd) : FnOk P w K mg base CX0 5 (ad K "need_told") (fd "need_told") ["deputies", "told"] (spD P w K T 2 PL.F_need_told) := by
  have nd := nd_need_told
  exact fnD (k := 4) (O' := []) C.f_need_told sc_need_told rfl rfl (by decide) (fun A outer s H E hr =>
 (dss_cons (ds_ex (de_call ((ok_need_deputies C).mono (by decide)) hr rfl C.g_need_deputies C.f_need_deputies.kp C.b_need_deputies (da_cons (de_var 0) da_nil) (len_cons len_nil)))
 (dss_cons (ds_if (dt_not (dt_b (de_is .tTup (hg := rfl) (hm := C.z_isinstance) (hg2 := rfl) (hm2 := C.z_tuple) (ha := (de_var 1))))) (dss_cons (ds_never (O' := []))
 dss_nil) dss_nil)
 (dss_cons (ds_for (vs := [2, 3]) hpX rfl (dw_enum rfl C.z_enumerate (de_var 1)) (dg_tup rfl (dgs_cons (dg_var 2 nd) (dgs_cons (dg_var 3 nd) dgs_nil))) (dss_cons (ds_if (dt_pw (dp_or (dt_not (dt_b (de_call ((ok_is_told C).mono (by decide)) hr rfl C.g_is_told C.f_is_told.kp C.b_is_told (da_cons (de_len rfl C.z_len (de_var 0)) (da_cons (de_var 3) da_nil)) (len_cons (len_cons len_nil))))) (dp_or1 (dt_pw (dp_and (dct (dc_cmp (d_oGt) (de_var 2) de_int (nomark _))) (dp_and1 (dct (dc_cmp (d_oLe) (de_ix (de_var 3) de_int) (de_ix (de_ix (de_var 1) (de_bin d_oSub (de_var 2) de_int)) de_int) (nomark _))))))))) (dss_cons (ds_never (O' := []))
 dss_nil) dss_nil)
 dss_nil))
 dss_nil))))
def N_begins : List Str := ["deputies", "told", "person", "some", "one"]
theorem nd_begins : (N_begins).Nodup := by decide +kernel
theorem sc_begins : FnScope N_begins ["deputies", "told"] (defScope FH.s_begins) := ⟨rfl, rfl, rfl, nd_begins, rfl, by decide +kernel, by decide +kernel⟩
theorem ok_begins (C : Ctx P w K mg base T fd) : FnOk P w K mg base CX0 2 (ad K "begins") (fd "begins") ["deputies", "told"] (spD P w K T 2 PL.F_begins) := by
  have nd := nd_begins
  exact fnD (k := 1) (O' := []) C.f_begins sc_begins rfl rfl (by decide) (fun A outer s H E hr =>
 (dss_cons (ds_if (dt_b (de_any (own := [("person", 2), ("some", 3)]) rfl hr rfl C.z_any C.t_begins.1 C.t_begins.2 rfl (blkOk_by (N := N_begins) (sc := (defScope FH.s_begins)) (own := [("person", 2), ("some", 3)]) (by decide +kernel)) ⟨rfl, by decide +kernel, rfl⟩ nd (dw_seq (de_var 1)) (fun _ _ _ _ _ _ _ hr => (dg_tup rfl (dgs_cons (dg_var 2 nd) (dgs_cons (dg_var 3 nd) dgs_nil)))) (fun _ _ _ _ _ _ _ hr => dts_nil) (fun _ _ _ _ _ _ _ hr => (dce (dc_cmp (d_oNe hr.units) (de_ix (de_var 3) de_int) (de_var 2) (nomark _)))))) (dss_cons (ds_ret (O' := []) de_non)
 dss_nil) dss_nil)
 (dss_cons (ds_ret (O' := []) (de_tuple rfl C.z_tuple (de_of (df_comp (own := [("one", 4)]) rfl nd (dw_seq (de_var 1)) (blkOk_by (N := N_begins) (sc := (defScope FH.s_begins)) (own := [("one", 4)]) (by decide +kernel)) (fun _ _ _ _ _ => (dg_var 4 nd)) (fun _ _ _ _ _ => dts_nil) (fun _ _ _ _ _ => de_int)))))
 dss_nil)))
def N_goes_on : List Str := ["deputies", "told", "come", "gone", "found", "there", "person", "some", "many", "here"]
theorem nd_goes_on : (N_goes_on).Nodup := by decide +kernel
theorem sc_goes_on : FnScope N_goes_on ["deputies", "told", "come", "gone"] (defScope FH.s_goes_on) := ⟨rfl, rfl, rfl, nd_goes_on, rfl, by decide +kernel, by decide +kernel⟩
theorem ok_goes_on (C : Ctx P w K mg base T fd) : FnOk P w K mg base CX0 4 (ad K "goes_on") (fd "goes_on") ["deputies", "told", "come", "gone"] (spD P w K T 4 PL.F_goes_on) := by
  have nd := nd_goes_on
  exact fnD (k := 3) (O' := []) C.f_goes_on sc_goes_on rfl rfl (by decide) (fun A outer s H E hr =>
 (dss_cons (ds_parO 0 4 (parN2 rfl nd mono_tAo (da_own (df_lst da_nil) (da_cons (de_call ((ok_all_holders C).mono (by decide)) hr rfl C.g_all_holders C.f_all_holders.kp C.b_all_holders (da_cons (de_var 0) (da_cons (de_var 3) da_nil)) (len_cons (len_cons len_nil))) da_nil))))
 (dss_cons (ds_for (vs := [6, 7, 8]) hpX rfl (dw_zip rfl C.z_zip (de_var 1) (de_var 2)) (dg_tup rfl (dgs_cons (dg_tup rfl (dgs_cons (dg_var 6 nd) (dgs_cons (dg_var 7 nd) dgs_nil))) (dgs_cons (dg_var 8 nd) dgs_nil))) (dss_cons (ds_set 9 nd (de_ix (de_var 5) (de_var 6)))
 (dss_cons (ds_if (dct (dc_cmp (d_oEq hr.units) (de_var 9) (de_ix (de_var 7) (de_bin d_oSub (de_var 8) de_int)) (nomark _))) (dss_cons (ds_app 4 (de_var 8))
 dss_nil) (dss_cons (ds_if (dt_pw (dp_and (dct (dc_cmp (d_oLt) (de_var 8) (de_len rfl C.z_len (de_var 7)) (nomark _))) (dp_and1 (dct (dc_cmp (d_oEq hr.units) (de_ix (de_var 7) (de_var 8)) (de_var 9) (nomark _)))))) (dss_cons (ds_app 4 (de_bin d_oAdd (de_var 8) de_int))
 dss_nil) (dss_cons (ds_ret (O' := [4]) de_non)
 dss_nil))
 dss_nil))
 dss_nil)))
 (dss_pub 4 (O1 := []) (h := (dss_cons (ds_ret (O' := []) (de_tuple rfl C.z_tuple (de_var 4)))
 dss_nil))))))
def N_ratio : List Str := ["top", "bottom", "common"]
theorem nd_ratio : (N_ratio).Nodup := by decide +kernel
theorem sc_ratio : FnScope N_ratio ["top", "bottom"] (defScope FH.s_ratio) := ⟨rfl, rfl, rfl, nd_ratio, rfl, by decide +kernel, by decide +kernel⟩
theorem ok_ratio (C : Ctx P w K mg base T fd) : FnOk P w K mg base CX0 1 (ad K "ratio") (fd "ratio") ["top", "bottom"] (spD P w K T 2 PL.F_ratio) := by
  have nd := nd_ratio
  exact fnD (k := 0) (O' := []) C.f_ratio sc_ratio rfl rfl (by decide) (fun A outer s H E hr =>
 (dss_cons (ds_set 2 nd (de_if (dct (dc_cmp (d_oGt) (de_var 1) de_int (nomark _))) (de_gcd rfl C.gcd (de_var 0) (de_var 1)) (de_bin d_oSub de_int (de_gcd rfl C.gcd (de_var 0) (de_var 1)))))
 (dss_cons (ds_ret (O' := []) (de_tup (da_cons (de_bin d_oDivW (de_var 0) (de_var 2)) (da_cons (de_bin d_oDivW (de_var 1) (de_var 2)) da_nil))))
 dss_nil)))
def N_plus : List Str := ["one", "other"]
theorem nd_plus : (N_plus).Nodup := by decide +kernel
theorem sc_plus : FnScope N_plus ["one", "other"] (defScope FH.s_plus) := ⟨rfl, rfl, rfl, nd_plus, rfl, by decide +kernel, by decide +kernel⟩
theorem ok_plus (C : Ctx P w K mg base T fd) : FnOk P w K mg base CX0 2 (ad K "plus") (fd "plus") ["one", "other"] (spD P w K T 2 PL.F_plus) := by
  have nd := nd_plus
  exact fnD (k := 1) (O' := []) C.f_plus sc_plus rfl rfl (by decide) (fun A outer s H E hr =>
 (dss_cons (ds_ret (O' := []) (de_call ((ok_ratio C).mono (by decide)) hr rfl C.g_ratio C.f_ratio.kp C.b_ratio (da_cons (de_bin d_oAdd (de_bin d_oMul (de_ix (de_var 0) de_int) (de_ix (de_var 1) de_int)) (de_bin d_oMul (de_ix (de_var 1) de_int) (de_ix (de_var 0) de_int))) (da_cons (de_bin d_oMul (de_ix (de_var 0) de_int) (de_ix (de_var 1) de_int)) da_nil)) (len_cons (len_cons len_nil))))
 dss_nil))
def N_by : List Str := ["one", "other"]
theorem nd_by : (N_by).Nodup := by decide +kernel
theorem sc_by : FnScope N_by ["one", "other"] (defScope FH.s_by) := ⟨rfl, rfl, rfl, nd_by, rfl, by decide +kernel, by decide +kernel⟩
theorem ok_by (C : Ctx P w K mg base T fd) : FnOk P w K mg base CX0 2 (ad K "by") (fd "by") ["one", "other"] (spD P w K T 2 PL.F_by) := by
  have nd := nd_by
  exact fnD (k := 1) (O' := []) C.f_by sc_by rfl rfl (by decide) (fun A outer s H E hr =>
 (dss_cons (ds_ret (O' := []) (de_call ((ok_ratio C).mono (by decide)) hr rfl C.g_ratio C.f_ratio.kp C.b_ratio (da_cons (de_bin d_oMul (de_ix (de_var 0) de_int) (de_ix (de_var 1) de_int)) (da_cons (de_bin d_oMul (de_ix (de_var 0) de_int) (de_ix (de_var 1) de_int)) da_nil)) (len_cons (len_cons len_nil))))
 dss_nil))
def N_are_weights : List Str := ["size", "value", "one"]
theorem nd_are_weights : (N_are_weights).Nodup := by decide +kernel
theorem sc_are_weights : FnScope N_are_weights ["size", "value"] (defScope FH.s_are_weights) := ⟨rfl, rfl, rfl, nd_are_weights, rfl, by decide +kernel, by decide +kernel⟩
theorem ok_are_weights (C : Ctx P w K mg base T fd) : FnOk P w K mg base CX0 3 (ad K "are_weights") (fd "are_weights") ["size", "value"] (spD P w K T 2 PL.F_are_weights) := by
  have nd := nd_are_weights
  exact fnD (k := 2) (O' := []) C.f_are_weights sc_are_weights rfl rfl (by decide) (fun A outer s H E hr =>
 (dss_cons (ds_ret (O' := []) (de_and (de_is .tTup (hg := rfl) (hm := C.z_isinstance) (hg2 := rfl) (hm2 := C.z_tuple) (ha := (de_var 1))) (de_and (dce (dc_cmp (d_oEq hr.units) (de_len rfl C.z_len (de_var 1)) (de_var 0) (nomark _))) (de_one (de_all (own := [("one", 2)]) rfl hr rfl C.z_all C.t_are_weights.1 C.t_are_weights.2 rfl (blkOk_by (N := N_are_weights) (sc := (defScope FH.s_are_weights)) (own := [("one", 2)]) (by decide +kernel)) ⟨rfl, by decide +kernel, rfl⟩ nd (dw_seq (de_var 1)) (fun _ _ _ _ _ _ _ hr => (dg_var 2 nd)) (fun _ _ _ _ _ _ _ hr => dts_nil) (fun _ _ _ _ _ _ _ hr => (de_call ((ok_is_in C).mono (by decide)) hr rfl C.g_is_in C.f_is_in.kp C.b_is_in (da_cons (de_var 2) (da_cons de_int (da_cons (de_glob rfl C.mw) da_nil))) (len_cons (len_cons (len_cons len_nil))))))))))
 dss_nil))
def N_need_weighted : List Str := ["deputies", "weights"]
theorem nd_need_weighted : (N_need_weighted).Nodup := by decide +kernel
theorem sc_need_weighted : FnScope N_need_weighted ["deputies", "weights"] (defScope FH.s_need_weighted) := ⟨rfl, rfl, rfl, nd_need_weighted, rfl, by decide +kernel, by decide +kernel⟩
theorem ok_need_weighted (C : Ctx P w K mg base T fd) : FnOk P w K mg base CX0 5 (ad K "need_weighted") (fd "need_weighted") ["deputies", "weights"] (spD P w K T 2 PL.F_need_weighted) := by
  have nd := nd_need_weighted
  exact fnD (k := 4) (O' := []) C.f_need_weighted sc_need_weighted rfl rfl (by decide) (fun A outer s H E hr =>
 (dss_cons (ds_ex (de_call ((ok_need_deputies C).mono (by decide)) hr rfl C.g_need_deputies C.f_need_deputies.kp C.b_need_deputies (da_cons (de_var 0) da_nil) (len_cons len_nil)))
 (dss_cons (ds_if (dt_not (dt_b (de_call ((ok_are_weights C).mono (by decide)) hr rfl C.g_are_weights C.f_are_weights.kp C.b_are_weights (da_cons (de_len rfl C.z_len (de_var 0)) (da_cons (de_var 1) da_nil)) (len_cons (len_cons len_nil))))) (dss_cons (ds_never (O' := []))
 dss_nil) dss_nil)
 dss_nil)))
def N_left_weight : List Str := ["weights", "gone", "person", "one"]
theorem nd_left_weight : (N_left_weight).Nodup := by decide +kernel
theorem sc_left_weight : FnScope N_left_weight ["weights", "gone"] (defScope FH.s_left_weight) := ⟨rfl, rfl, rfl, nd_left_weight, rfl, by decide +kernel, by decide +kernel⟩
theorem ok_left_weight (C : Ctx P w K mg base T fd) : FnOk P w K mg base CX0 2 (ad K "left_weight") (fd "left_weight") ["weights", "gone"] (spD P w K T 2 PL.F_left_weight) := by
  have nd := nd_left_weight
  exact fnD (k := 1) (O' := []) C.f_left_weight sc_left_weight rfl rfl (by decide) (fun A outer s H E hr =>
 (dss_cons (ds_ret (O' := []) (de_gsum (own := [("person", 2), ("one", 3)]) rfl hr rfl C.z_sum C.t_left_weight.1 C.t_left_weight.2 rfl (blkOk_by (N := N_left_weight) (sc := (defScope FH.s_left_weight)) (own := [("person", 2), ("one", 3)]) (by decide +kernel)) ⟨rfl, by decide +kernel, rfl⟩ nd (dw_enum rfl C.z_enumerate (de_var 0)) (fun _ _ _ _ _ _ _ hr => (dg_tup rfl (dgs_cons (dg_var 2 nd) (dgs_cons (dg_var 3 nd) dgs_nil)))) (fun _ _ _ _ _ _ _ hr => (dts_one (dct (dc_cmp (d_oNotIn) (de_var 2) (de_var 1) (by rfl))))) (fun _ _ _ _ _ _ _ hr => (de_var 3))))
 dss_nil))
def N_handed : List Str := ["deputies", "order", "person"]
theorem nd_handed : (N_handed).Nodup := by decide +kernel
theorem sc_handed : FnScope N_handed ["deputies", "order"] (defScope FH.s_handed) := ⟨rfl, rfl, rfl, nd_handed, rfl, by decide +kernel, by decide +kernel⟩
theorem ok_handed (C : Ctx P w K mg base T fd) : FnOk P w K mg base CX0 7 (ad K "handed") (fd "handed") ["deputies", "order"] (spD P w K T 2 PL.F_handed) := by
  have nd := nd_handed
  exact fnD (k := 6) (O' := []) C.f_handed sc_handed rfl rfl (by decide) (fun A outer s H E hr =>
 (dss_cons (ds_ret (O' := []) (de_gsum (own := [("person", 2)]) rfl hr rfl C.z_sum C.t_handed.1 C.t_handed.2 rfl (blkOk_by (N := N_handed) (sc := (defScope FH.s_handed)) (own := [("person", 2)]) (by decide +kernel)) ⟨rfl, by decide +kernel, rfl⟩ nd (dw_range rfl C.z_range (de_len rfl C.z_len (de_var 0))) (fun _ _ _ _ _ _ _ hr => (dg_var 2 nd)) (fun _ _ _ _ _ _ _ hr => dts_nil) (fun _ _ _ _ _ _ _ hr => (de_bin d_oSub (de_len rfl C.z_len (de_call ((ok_handings_of C).mono (by decide)) hr rfl C.g_handings_of C.f_handings_of.kp C.b_handings_of (da_cons (de_var 0) (da_cons (de_var 1) (da_cons (de_var 2) da_nil))) (len_cons (len_cons (len_cons len_nil))))) de_int))))
 dss_nil))
def N_most_row : List Str := ["deputies", "size", "found", "turn", "more", "gone", "total", "row", "there", "person", "lot", "part"]
theorem nd_most_row : (N_most_row).Nodup := by decide +kernel
theorem sc_most_row : FnScope N_most_row ["deputies"] (defScope FH.s_most_row) := ⟨rfl, rfl, rfl, nd_most_row, rfl, by decide +kernel, by decide +kernel⟩
theorem ok_most_row (C : Ctx P w K mg base T fd) : FnOk P w K mg base CX0 4 (ad K "most_row") (fd "most_row") ["deputies"] (spD P w K T 1 PL.F_most_row) := by
  have nd := nd_most_row
  exact fnD (k := 3) (O' := []) C.f_most_row sc_most_row rfl rfl (by decide) (fun A outer s H E hr =>
 (dss_cons (ds_set 1 nd (de_len rfl C.z_len (de_var 0)))
 (dss_cons (ds_set 2 nd (de_of (df_dict1 hr.u9 (de_tup da_nil) (de_tup (da_cons de_int (da_cons (de_tup da_nil) da_nil))))))
 (dss_cons (ds_for (vs := [3]) hpX rfl (dw_range rfl C.z_range (de_var 1)) (dg_var 3 nd) (dss_cons (dso_set 4 nd df_dict0)
 (dss_cons (ds_for (vs := [5]) hpX rfl (dw_keys (de_var 2)) (dg_var 5 nd) (dss_cons (ds_tgt (vs := [6, 7]) (dg_tup rfl (dgs_cons (dg_var 6 nd) (dgs_cons (dg_var 7 nd) dgs_nil))) (de_get hr.u9 (dd_fro (de_var 2)) (de_var 5)))
 (dss_cons (ds_set 8 nd (de_call ((ok_all_holders C).mono (by decide)) hr rfl C.g_all_holders C.f_all_holders.kp C.b_all_holders (da_cons (de_var 0) (da_cons (de_var 5) da_nil)) (len_cons (len_cons len_nil))))
 (dss_cons (ds_for (vs := [9]) hpX rfl (dw_range rfl C.z_range (de_var 1)) (dg_var 9 nd) (dss_cons (ds_if (dct (dc_cmp (d_oNotIn) (de_var 9) (de_var 5) (by rfl))) (dss_cons (ds_set 10 nd (de_tuple rfl C.z_tuple (de_sorted rfl C.z_sorted (de_of (df_lst (da_star (de_var 5) (da_cons (de_var 9) da_nil)))))))
 (dss_cons (ds_set 11 nd (de_tup (da_cons (de_bin d_oAdd (de_var 6) (de_count hr.u65 (de_var 8) (de_var 9))) (da_cons (de_tup (da_star (de_var 7) (da_cons (de_var 9) da_nil))) da_nil))))
 (dss_cons (ds_if (dt_pw (dp_or (dct (dc_notInT hr.u9 (de_var 10) (dd_own 4))) (dp_or1 (dct (dc_cmp (d_oGt) (de_ix (de_var 11) de_int) (de_ix (de_get hr.u9 (dd_own 4) (de_var 10)) de_int) (nomark _)))))) (dss_cons (ds_put 4 hr.u9 (de_var 11) (de_var 10))
 dss_nil) dss_nil)
 dss_nil))) dss_nil)
 dss_nil))
 dss_nil))))
 (dss_pub 4 (O1 := []) (h := (dss_cons (ds_set 2 nd (de_var 4))
 dss_nil))))))
 (dss_cons (ds_ret (O' := []) (de_get hr.u9 (dd_fro (de_var 2)) (de_tupRg rfl rfl C.z_tuple rfl C.z_range (de_var 1))))
 dss_nil)))))
def N_most_handings : List Str := ["deputies"]
theorem nd_most_handings : (N_most_handings).Nodup := by decide +kernel
theorem sc_most_handings : FnScope N_most_handings ["deputies"] (defScope FH.s_most_handings) := ⟨rfl, rfl, rfl, nd_most_handings, rfl, by decide +kernel, by decide +kernel⟩
theorem ok_most_handings (C : Ctx P w K mg base T fd) : FnOk P w K mg base CX0 5 (ad K "most_handings") (fd "most_handings") ["deputies"] (spD P w K T 1 PL.F_most_handings) := by
  have nd := nd_most_handings
  exact fnD (k := 4) (O' := []) C.f_most_handings sc_most_handings rfl rfl (by decide) (fun A outer s H E hr =>
 (dss_cons (ds_ex (de_call ((ok_need_deputies C).mono (by decide)) hr rfl C.g_need_deputies C.f_need_deputies.kp C.b_need_deputies (da_cons (de_var 0) da_nil) (len_cons len_nil)))
 (dss_cons (ds_ret (O' := []) (de_call ((ok_most_row C).mono (by decide)) hr rfl C.g_most_row C.f_most_row.kp C.b_most_row (da_cons (de_var 0) da_nil) (len_cons len_nil)))
 dss_nil)))
def N_shows_most_handings : List Str := ["deputies", "value", "best", "size"]
theorem nd_shows_most_handings : (N_shows_most_handings).Nodup := by decide +kernel
theorem sc_shows_most_handings : FnScope N_shows_most_handings ["deputies", "value"] (defScope FH.s_shows_most_handings) := ⟨rfl, rfl, rfl, nd_shows_most_handings, rfl, by decide +kernel, by decide +kernel⟩
theorem ok_shows_most_handings (C : Ctx P w K mg base T fd) : FnOk P w K mg base CX0 8 (ad K "shows_most_handings") (fd "shows_most_handings") ["deputies", "value"] (spD P w K T 2 PL.F_shows_most_handings) := by
  have nd := nd_shows_most_handings
  exact fnD (k := 7) (O' := []) C.f_shows_most_handings sc_shows_most_handings rfl rfl (by decide) (fun A outer s H E hr =>
 (dss_cons (ds_ex (de_call ((ok_need_deputies C).mono (by decide)) hr rfl C.g_need_deputies C.f_need_deputies.kp C.b_need_deputies (da_cons (de_var 0) da_nil) (len_cons len_nil)))
 (dss_cons (ds_par (parN2 rfl nd mono_tA (da_cons (de_ix (de_call ((ok_most_row C).mono (by decide)) hr rfl C.g_most_row C.f_most_row.kp C.b_most_row (da_cons (de_var 0) da_nil) (len_cons len_nil)) de_int) (da_cons (de_len rfl C.z_len (de_var 0)) da_nil))))
 (dss_cons (ds_if (dt_pw (dp_or (dt_not (dt_b (de_is .tTup (hg := rfl) (hm := C.z_isinstance) (hg2 := rfl) (hm2 := C.z_tuple) (ha := (de_var 1))))) (dp_or (dct (dc_cmp (d_oNe hr.units) (de_len rfl C.z_len (de_var 1)) de_int (nomark _))) (dp_or1 (dt_not (dt_b (de_call ((ok_is_in C).mono (by decide)) hr rfl C.g_is_in C.f_is_in.kp C.b_is_in (da_cons (de_ix (de_var 1) de_int) (da_cons (de_var 2) (da_cons (de_var 2) da_nil))) (len_cons (len_cons (len_cons len_nil)))))))))) (dss_cons (ds_ret (O' := []) de_bl)
 dss_nil) dss_nil)
 (dss_cons (ds_ret (O' := []) (de_and (de_call ((ok_is_order C).mono (by decide)) hr rfl C.g_is_order C.f_is_order.kp C.b_is_order (da_cons (de_var 3) (da_cons (de_ix (de_var 1) de_int) da_nil)) (len_cons (len_cons len_nil))) (de_and (dce (dc_cmp (d_oEq hr.units) (de_len rfl C.z_len (de_ix (de_var 1) de_int)) (de_var 3) (nomark _))) (de_one (dce (dc_cmp (d_oEq hr.units) (de_call ((ok_handed C).mono (by decide)) hr rfl C.g_handed C.f_handed.kp C.b_handed (da_cons (de_var 0) (da_cons (de_ix (de_var 1) de_int) da_nil)) (len_cons (len_cons len_nil))) (de_var 2) (nomark _)))))))
 dss_nil)))))
def N_all_orders : List Str := ["size", "found", "turn", "more", "row", "person"]
theorem nd_all_orders : (N_all_orders).Nodup := by decide +kernel
theorem sc_all_orders : FnScope N_all_orders ["size"] (defScope FH.s_all_orders) := ⟨rfl, rfl, rfl, nd_all_orders, rfl, by decide +kernel, by decide +kernel⟩
theorem ok_all_orders (C : Ctx P w K mg base T fd) : FnOk P w K mg base CX0 1 (ad K "all_orders") (fd "all_orders") ["size"] (spD P w K T 1 PL.F_all_orders) := by
  have nd := nd_all_orders
  exact fnD (k := 0) (O' := []) C.f_all_orders sc_all_orders rfl rfl (by decide) (fun A outer s H E hr =>
 (dss_cons (ds_set 1 nd (de_of (df_lst (da_cons (de_tup da_nil) da_nil))))
 (dss_cons (ds_for (vs := [2]) hpX rfl (dw_range rfl C.z_range (de_var 0)) (dg_var 2 nd) (dss_cons (ds_set 3 nd (de_of (df_lst da_nil)))
 (dss_cons (ds_for (vs := [4]) hpX rfl (dw_seq (de_var 1)) (dg_var 4 nd) (dss_cons (ds_set 3 nd (de_bin d_oCatL (de_var 3) (de_of (df_comp (own := [("person", 5)]) rfl nd (dw_range rfl C.z_range (de_var 0)) (blkOk_by (N := N_all_orders) (sc := (defScope FH.s_all_orders)) (own := [("person", 5)]) (by decide +kernel)) (fun _ _ _ _ _ => (dg_var 5 nd)) (fun _ _ _ _ _ => (dts_one (dct (dc_cmp (d_oNotIn) (de_var 5) (de_var 4) (by rfl))))) (fun _ _ _ _ _ => (de_tup (da_star (de_var 4) (da_cons (de_var 5) da_nil))))))))
 dss_nil))
 (dss_cons (ds_set 1 nd (de_var 3))
 dss_nil))))
 (dss_cons (ds_ret (O' := []) (de_var 1))
 dss_nil))))
def N_with_names : List Str := ["deputies", "order", "found", "person", "deputy"]
theorem nd_with_names : (N_with_names).Nodup := by decide +kernel
theorem sc_with_names : FnScope N_with_names ["deputies", "order"] (defScope FH.s_with_names) := ⟨rfl, rfl, rfl, nd_with_names, rfl, by decide +kernel, by decide +kernel⟩
theorem ok_with_names (C : Ctx P w K mg base T fd) : FnOk P w K mg base CX0 1 (ad K "with_names") (fd "with_names") ["deputies", "order"] (spD P w K T 2 PL.F_with_names) := by
  have nd := nd_with_names
  exact fnD (k := 0) (O' := []) C.f_with_names sc_with_names rfl rfl (by decide) (fun A outer s H E hr =>
 (dss_cons (dso_set 2 nd (df_list rfl C.z_list (de_var 0)))
 (dss_cons (ds_for (vs := [3, 4]) hpX rfl (dw_enum rfl C.z_enumerate (de_var 0)) (dg_tup rfl (dgs_cons (dg_var 3 nd) (dgs_cons (dg_var 4 nd) dgs_nil))) (dss_cons (ds_setIx 2 (de_if (dct (dc_cmp (d_oEq hr.units) (de_var 4) (de_neg de_int) (nomark _))) (de_neg de_int) (de_ix (de_var 1) (de_var 4))) (de_ix (de_var 1) (de_var 3)))
 dss_nil))
 (dss_pub 2 (O1 := []) (h := (dss_cons (ds_ret (O' := []) (de_tuple rfl C.z_tuple (de_var 2)))
 dss_nil))))))
def N_shape_of : List Str := ["deputies", "order"]
theorem nd_shape_of : (N_shape_of).Nodup := by decide +kernel
theorem sc_shape_of : FnScope N_shape_of ["deputies"] (defScope FH.s_shape_of) := ⟨rfl, rfl, rfl, nd_shape_of, rfl, by decide +kernel, by decide +kernel⟩
theorem ok_shape_of (C : Ctx P w K mg base T fd) : FnOk P w K mg base CX0 2 (ad K "shape_of") (fd "shape_of") ["deputies"] (spD P w K T 1 PL.F_shape_of) := by
  have nd := nd_shape_of
  exact fnD (k := 1) (O' := []) C.f_shape_of sc_shape_of rfl rfl (by decide) (fun A outer s H E hr =>
 (dss_cons (ds_ret (O' := []) (de_minT rfl hr.u65 rfl C.z_min (de_of (df_comp (own := [("order", 1)]) rfl nd (dw_seq (de_call ((ok_all_orders C).mono (by decide)) hr rfl C.g_all_orders C.f_all_orders.kp C.b_all_orders (da_cons (de_len rfl C.z_len (de_var 0)) da_nil) (len_cons len_nil))) (blkOk_by (N := N_shape_of) (sc := (defScope FH.s_shape_of)) (own := [("order", 1)]) (by decide +kernel)) (fun _ _ _ _ _ => (dg_var 1 nd)) (fun _ _ _ _ _ => dts_nil) (fun _ _ _ _ _ => (de_call ((ok_with_names C).mono (by decide)) hr rfl C.g_with_names C.f_with_names.kp C.b_with_names (da_cons (de_var 0) (da_cons (de_var 1) da_nil)) (len_cons (len_cons len_nil))))))))
 dss_nil))
def N_shape : List Str := ["deputies"]
theorem nd_shape : (N_shape).Nodup := by decide +kernel
theorem sc_shape : FnScope N_shape ["deputies"] (defScope FH.s_shape) := ⟨rfl, rfl, rfl, nd_shape, rfl, by decide +kernel, by decide +kernel⟩
theorem ok_shape (C : Ctx P w K mg base T fd) : FnOk P w K mg base CX0 5 (ad K "shape") (fd "shape") ["deputies"] (spD P w K T 1 PL.F_shape) := by
  have nd := nd_shape
  exact fnD (k := 4) (O' := []) C.f_shape sc_shape rfl rfl (by decide) (fun A outer s H E hr =>
 (dss_cons (ds_ex (de_call ((ok_need_deputies C).mono (by decide)) hr rfl C.g_need_deputies C.f_need_deputies.kp C.b_need_deputies (da_cons (de_var 0) da_nil) (len_cons len_nil)))
 (dss_cons (ds_ret (O' := []) (de_call ((ok_shape_of C).mono (by decide)) hr rfl C.g_shape_of C.f_shape_of.kp C.b_shape_of (da_cons (de_var 0) da_nil) (len_cons len_nil)))
 dss_nil)))
def N_alike : List Str := ["one", "other"]
theorem nd_alike : (N_alike).Nodup := by decide +kernel
theorem sc_alike : FnScope N_alike ["one", "other"] (defScope FH.s_alike) := ⟨rfl, rfl, rfl, nd_alike, rfl, by decide +kernel, by decide +kernel⟩
theorem ok_alike (C : Ctx P w K mg base T fd) : FnOk P w K mg base CX0 5 (ad K "alike") (fd "alike") ["one", "other"] (spD P w K T 2 PL.F_alike) := by
  have nd := nd_alike
  exact fnD (k := 4) (O' := []) C.f_alike sc_alike rfl rfl (by decide) (fun A outer s H E hr =>
 (dss_cons (ds_ex (de_call ((ok_need_deputies C).mono (by decide)) hr rfl C.g_need_deputies C.f_need_deputies.kp C.b_need_deputies (da_cons (de_var 0) da_nil) (len_cons len_nil)))
 (dss_cons (ds_if (dt_pw (dp_or (dt_not (dt_b (de_call ((ok_are_deputies C).mono (by decide)) hr rfl C.g_are_deputies C.f_are_deputies.kp C.b_are_deputies (da_cons (de_var 1) da_nil) (len_cons len_nil)))) (dp_or1 (dct (dc_cmp (d_oNe hr.units) (de_len rfl C.z_len (de_var 1)) (de_len rfl C.z_len (de_var 0)) (nomark _)))))) (dss_cons (ds_never (O' := []))
 dss_nil) dss_nil)
 (dss_cons (ds_ret (O' := []) (dce (dc_cmp (d_oEq hr.units) (de_call ((ok_shape_of C).mono (by decide)) hr rfl C.g_shape_of C.f_shape_of.kp C.b_shape_of (da_cons (de_var 0) da_nil) (len_cons len_nil)) (de_call ((ok_shape_of C).mono (by decide)) hr rfl C.g_shape_of C.f_shape_of.kp C.b_shape_of (da_cons (de_var 1) da_nil) (len_cons len_nil)) (nomark _))))
 dss_nil))))
def N_own_names : List Str := ["deputies", "order"]
theorem nd_own_names : (N_own_names).Nodup := by decide +kernel
theorem sc_own_names : FnScope N_own_names ["deputies"] (defScope FH.s_own_names) := ⟨rfl, rfl, rfl, nd_own_names, rfl, by decide +kernel, by decide +kernel⟩
theorem ok_own_names (C : Ctx P w K mg base T fd) : FnOk P w K mg base CX0 5 (ad K "own_names") (fd "own_names") ["deputies"] (spD P w K T 1 PL.F_own_names) := by
  have nd := nd_own_names
  exact fnD (k := 4) (O' := []) C.f_own_names sc_own_names rfl rfl (by decide) (fun A outer s H E hr =>
 (dss_cons (ds_ex (de_call ((ok_need_deputies C).mono (by decide)) hr rfl C.g_need_deputies C.f_need_deputies.kp C.b_need_deputies (da_cons (de_var 0) da_nil) (len_cons len_nil)))
 (dss_cons (ds_ret (O' := []) (de_len rfl C.z_len (de_of (df_comp (own := [("order", 1)]) rfl nd (dw_seq (de_call ((ok_all_orders C).mono (by decide)) hr rfl C.g_all_orders C.f_all_orders.kp C.b_all_orders (da_cons (de_len rfl C.z_len (de_var 0)) da_nil) (len_cons len_nil))) (blkOk_by (N := N_own_names) (sc := (defScope FH.s_own_names)) (own := [("order", 1)]) (by decide +kernel)) (fun _ _ _ _ _ => (dg_var 1 nd)) (fun _ _ _ _ _ => (dts_one (dct (dc_cmp (d_oEq hr.units) (de_call ((ok_with_names C).mono (by decide)) hr rfl C.g_with_names C.f_with_names.kp C.b_with_names (da_cons (de_var 0) (da_cons (de_var 1) da_nil)) (len_cons (len_cons len_nil))) (de_var 0) (nomark _))))) (fun _ _ _ _ _ => de_int)))))
 dss_nil)))
def N_told_chance : List Str := ["deputies", "weights", "told", "size", "come", "found", "turn", "more", "gone", "many", "whole", "person", "lot", "there", "part", "some"]
theorem nd_told_chance : (N_told_chance).Nodup := by decide +kernel
theorem sc_told_chance : FnScope N_told_chance ["deputies", "weights", "told"] (defScope FH.s_told_chance) := ⟨rfl, rfl, rfl, nd_told_chance, rfl, by decide +kernel, by decide +kernel⟩
theorem ok_told_chance (C : Ctx P w K mg base T fd) : FnOk P w K mg base CX0 6 (ad K "told_chance") (fd "told_chance") ["deputies", "weights", "told"] (spD P w K T 3 PL.F_told_chance) := by
  have nd := nd_told_chance
  exact fnD (k := 5) (O' := []) C.f_told_chance sc_told_chance rfl rfl (by decide) (fun A outer s H E hr =>
 (dss_cons (ds_ex (de_call ((ok_need_weighted C).mono (by decide)) hr rfl C.g_need_weighted C.f_need_weighted.kp C.b_need_weighted (da_cons (de_var 0) (da_cons (de_var 1) da_nil)) (len_cons (len_cons len_nil))))
 (dss_cons (ds_ex (de_call ((ok_need_told C).mono (by decide)) hr rfl C.g_need_told C.f_need_told.kp C.b_need_told (da_cons (de_var 0) (da_cons (de_var 2) da_nil)) (len_cons (len_cons len_nil))))
 (dss_cons (ds_par (parN2 rfl nd mono_tA (da_cons (de_len rfl C.z_len (de_var 0)) (da_cons (de_call ((ok_begins C).mono (by decide)) hr rfl C.g_begins C.f_begins.kp C.b_begins (da_cons (de_var 0) (da_cons (de_var 2) da_nil)) (len_cons (len_cons len_nil))) da_nil))))
 (dss_cons (ds_set 5 nd (de_if (dct (dc_isN (de_var 4))) (de_of df_dict0) (de_of (df_dict1 hr.u9 (de_tup (da_cons (de_tup da_nil) (da_cons (de_var 4) da_nil))) (de_tup (da_cons de_int (da_cons de_int da_nil)))))))
 (dss_cons (ds_for (vs := [6]) hpX rfl (dw_range rfl C.z_range (de_var 3)) (dg_var 6 nd) (dss_cons (dso_set 7 nd df_dict0)
 (dss_cons (ds_for (vs := [8, 9]) hpX rfl (dw_keys (de_var 5)) (dg_tup rfl (dgs_cons (dg_var 8 nd) (dgs_cons (dg_var 9 nd) dgs_nil))) (dss_cons (ds_set 10 nd (de_call ((ok_left_weight C).mono (by decide)) hr rfl C.g_left_weight C.f_left_weight.kp C.b_left_weight (da_cons (de_var 1) (da_cons (de_var 8) da_nil)) (len_cons (len_cons len_nil))))
 (dss_cons (ds_for (vs := [11]) hpX rfl (dw_range rfl C.z_range (de_var 3)) (dg_var 11 nd) (dss_cons (ds_if (dct (dc_cmp (d_oNotIn) (de_var 11) (de_var 8) (by rfl))) (dss_cons (ds_set 12 nd (de_tuple rfl C.z_tuple (de_sorted rfl C.z_sorted (de_of (df_lst (da_star (de_var 8) (da_cons (de_var 11) da_nil)))))))
 (dss_cons (ds_set 13 nd (de_call ((ok_goes_on C).mono (by decide)) hr rfl C.g_goes_on C.f_goes_on.kp C.b_goes_on (da_cons (de_var 0) (da_cons (de_var 2) (da_cons (de_var 9) (da_cons (de_var 12) da_nil)))) (len_cons (len_cons (len_cons (len_cons len_nil))))))
 (dss_cons (ds_if (dct (dc_notN (de_var 13))) (dss_cons (ds_set 14 nd (de_call ((ok_by C).mono (by decide)) hr rfl C.g_by C.f_by.kp C.b_by (da_cons (de_get hr.u9 (dd_fro (de_var 5)) (de_tup (da_cons (de_var 8) (da_cons (de_var 9) da_nil)))) (da_cons (de_call ((ok_ratio C).mono (by decide)) hr rfl C.g_ratio C.f_ratio.kp C.b_ratio (da_cons (de_ix (de_var 1) (de_var 11)) (da_cons (de_var 10) da_nil)) (len_cons (len_cons len_nil))) da_nil)) (len_cons (len_cons len_nil))))
 (dss_cons (ds_put 7 hr.u9 (de_call ((ok_plus C).mono (by decide)) hr rfl C.g_plus C.f_plus.kp C.b_plus (da_cons (de_get3 hr.u9 (dd_own 7) (de_tup (da_cons (de_var 12) (da_cons (de_var 13) da_nil))) (de_tup (da_cons de_int (da_cons de_int da_nil)))) (da_cons (de_var 14) da_nil)) (len_cons (len_cons len_nil))) (de_tup (da_cons (de_var 12) (da_cons (de_var 13) da_nil))))
 dss_nil)) dss_nil)
 dss_nil))) dss_nil)
 dss_nil))
 dss_nil)))
 (dss_pub 7 (O1 := []) (h := (dss_cons (ds_set 5 nd (de_var 7))
 dss_nil))))))
 (dss_cons (ds_set 10 nd (de_tup (da_cons de_int (da_cons de_int da_nil))))
 (dss_cons (ds_for (vs := [8, 4]) hpX rfl (dw_keys (de_var 5)) (dg_tup rfl (dgs_cons (dg_var 8 nd) (dgs_cons (dg_var 4 nd) dgs_nil))) (dss_cons (ds_if (dt_b (de_all (own := [("person", 11), ("some", 15), ("many", 9)]) rfl hr rfl C.z_all C.t_told_chance.1 C.t_told_chance.2 rfl (blkOk_by (N := N_told_chance) (sc := (defScope FH.s_told_chance)) (own := [("person", 11), ("some", 15), ("many", 9)]) (by decide +kernel)) ⟨rfl, by decide +kernel, rfl⟩ nd (dw_zip rfl C.z_zip (de_var 2) (de_var 4)) (fun _ _ _ _ _ _ _ hr => (dg_tup rfl (dgs_cons (dg_tup rfl (dgs_cons (dg_var 11 nd) (dgs_cons (dg_var 15 nd) dgs_nil))) (dgs_cons (dg_var 9 nd) dgs_nil)))) (fun _ _ _ _ _ _ _ hr => dts_nil) (fun _ _ _ _ _ _ _ hr => (dce (dc_cmp (d_oEq hr.units) (de_var 9) (de_len rfl C.z_len (de_var 15)) (nomark _)))))) (dss_cons (ds_set 10 nd (de_call ((ok_plus C).mono (by decide)) hr rfl C.g_plus C.f_plus.kp C.b_plus (da_cons (de_var 10) (da_cons (de_get hr.u9 (dd_fro (de_var 5)) (de_tup (da_cons (de_var 8) (da_cons (de_var 4) da_nil)))) da_nil)) (len_cons (len_cons len_nil))))
 dss_nil) dss_nil)
 dss_nil))
 (dss_cons (ds_ret (O' := []) (de_var 10))
 dss_nil)))))))))
def N_handing_chances_by : List Str := ["deputies", "weights", "person", "size", "found", "turn", "more", "gone", "many", "whole", "there", "one", "key", "part", "length"]
theorem nd_handing_chances_by : (N_handing_chances_by).Nodup := by decide +kernel
theorem sc_handing_chances_by : FnScope N_handing_chances_by ["deputies", "weights", "person"] (defScope FH.s_handing_chances_by) := ⟨rfl, rfl, rfl, nd_handing_chances_by, rfl, by decide +kernel, by decide +kernel⟩
theorem ok_handing_chances_by (C : Ctx P w K mg base T fd) : FnOk P w K mg base CX0 6 (ad K "handing_chances_by") (fd "handing_chances_by") ["deputies", "weights", "person"] (spD P w K T 3 PL.F_handing_chances_by) := by
  have nd := nd_handing_chances_by
  exact fnD (k := 5) (O' := []) C.f_handing_chances_by sc_handing_chances_by rfl rfl (by decide) (fun A outer s H E hr =>
 (dss_cons (ds_ex (de_call ((ok_need_weighted C).mono (by decide)) hr rfl C.g_need_weighted C.f_need_weighted.kp C.b_need_weighted (da_cons (de_var 0) (da_cons (de_var 1) da_nil)) (len_cons (len_cons len_nil))))
 (dss_cons (ds_ex (de_call ((ok_need_person C).mono (by decide)) hr rfl C.g_need_person C.f_need_person.kp C.b_need_person (da_cons (de_var 0) (da_cons (de_var 2) da_nil)) (len_cons (len_cons len_nil))))
 (dss_cons (ds_par (parNG rfl mono_tA (da_cons (de_len rfl C.z_len (de_var 0)) (da_cons (de_of (df_dict1 hr.u9 (de_tup (da_cons (de_tup da_nil) (da_cons de_int da_nil))) (de_tup (da_cons de_int (da_cons de_int da_nil))))) da_nil)) (gsa_cons nd (gsa_cons nd gsa_nil))))
 (dss_cons (ds_for (vs := [5]) hpX rfl (dw_range rfl C.z_range (de_var 3)) (dg_var 5 nd) (dss_cons (dso_set 6 nd df_dict0)
 (dss_cons (ds_for (vs := [7, 8]) hpX rfl (dw_keys (de_var 4)) (dg_tup rfl (dgs_cons (dg_var 7 nd) (dgs_cons (dg_var 8 nd) dgs_nil))) (dss_cons (ds_set 9 nd (de_call ((ok_left_weight C).mono (by decide)) hr rfl C.g_left_weight C.f_left_weight.kp C.b_left_weight (da_cons (de_var 1) (da_cons (de_var 7) da_nil)) (len_cons (len_cons len_nil))))
 (dss_cons (ds_set 10 nd (de_call ((ok_holder_of C).mono (by decide)) hr rfl C.g_holder_of C.f_holder_of.kp C.b_holder_of (da_cons (de_var 0) (da_cons (de_var 7) (da_cons (de_var 2) da_nil))) (len_cons (len_cons (len_cons len_nil)))))
 (dss_cons (ds_for (vs := [11]) hpX rfl (dw_range rfl C.z_range (de_var 3)) (dg_var 11 nd) (dss_cons (ds_if (dct (dc_cmp (d_oNotIn) (de_var 11) (de_var 7) (by rfl))) (dss_cons (ds_set 12 nd (de_tup (da_cons (de_tuple rfl C.z_tuple (de_sorted rfl C.z_sorted (de_of (df_lst (da_star (de_var 7) (da_cons (de_var 11) da_nil)))))) (da_cons (de_bin d_oAdd (de_var 8) (de_if (dct (dc_cmp (d_oEq hr.units) (de_var 11) (de_var 10) (nomark _))) de_int de_int)) da_nil))))
 (dss_cons (ds_set 13 nd (de_call ((ok_by C).mono (by decide)) hr rfl C.g_by C.f_by.kp C.b_by (da_cons (de_get hr.u9 (dd_fro (de_var 4)) (de_tup (da_cons (de_var 7) (da_cons (de_var 8) da_nil)))) (da_cons (de_call ((ok_ratio C).mono (by decide)) hr rfl C.g_ratio C.f_ratio.kp C.b_ratio (da_cons (de_ix (de_var 1) (de_var 11)) (da_cons (de_var 9) da_nil)) (len_cons (len_cons len_nil))) da_nil)) (len_cons (len_cons len_nil))))
 (dss_cons (ds_put 6 hr.u9 (de_call ((ok_plus C).mono (by decide)) hr rfl C.g_plus C.f_plus.kp C.b_plus (da_cons (de_get3 hr.u9 (dd_own 6) (de_var 12) (de_tup (da_cons de_int (da_cons de_int da_nil)))) (da_cons (de_var 13) da_nil)) (len_cons (len_cons len_nil))) (de_var 12))
 dss_nil))) dss_nil)
 dss_nil))
 dss_nil))))
 (dss_pub 6 (O1 := []) (h := (dss_cons (ds_set 4 nd (de_var 6))
 dss_nil))))))
 (dss_cons (ds_set 14 nd (de_len rfl C.z_len (de_call ((ok_chain_of C).mono (by decide)) hr rfl C.g_chain_of C.f_chain_of.kp C.b_chain_of (da_cons (de_var 0) (da_cons (de_var 2) da_nil)) (len_cons (len_cons len_nil)))))
 (dss_cons (ds_ret (O' := []) (de_tuple rfl C.z_tuple (de_of (df_comp (own := [("many", 8)]) rfl nd (dw_range rfl C.z_range (de_bin d_oAdd (de_var 14) de_int)) (blkOk_by (N := N_handing_chances_by) (sc := (defScope FH.s_handing_chances_by)) (own := [("many", 8)]) (by decide +kernel)) (fun _ _ _ _ _ => (dg_var 8 nd)) (fun _ _ _ _ _ => dts_nil) (fun _ _ _ _ _ => (de_get3 hr.u9 (dd_fro (de_var 4)) (de_tup (da_cons (de_tupRg rfl rfl C.z_tuple rfl C.z_range (de_var 3)) (da_cons (de_var 8) da_nil))) (de_tup (da_cons de_int (da_cons de_int da_nil)))))))))
 dss_nil)))))))
def N__law_pick : List Str := ["_law_row", "_law_things"]
theorem nd__law_pick : (N__law_pick).Nodup := by decide +kernel
theorem sc__law_pick : FnScope N__law_pick ["_law_row", "_law_things"] (defScope FH.s__law_pick) := ⟨rfl, rfl, rfl, nd__law_pick, rfl, by decide +kernel, by decide +kernel⟩
theorem ok__law_pick (C : Ctx P w K mg base T fd) : FnOk P w K mg base CX0 2 (ad K "_law_pick") (fd "_law_pick") ["_law_row", "_law_things"] (spD P w K T 2 PL.F_law_pick) := by
  have nd := nd__law_pick
  exact fnD (k := 1) (O' := []) C.f__law_pick sc__law_pick rfl rfl (by decide) (fun A outer s H E hr =>
 (dss_cons (ds_ret (O' := []) (de_ix (de_var 1) (de_call ((ok__law_taken C).mono (by decide)) hr rfl C.g__law_taken C.f__law_taken.kp C.b__law_taken (da_cons (de_var 0) (da_cons (de_len rfl C.z_len (de_var 1)) da_nil)) (len_cons (len_cons len_nil)))))
 dss_nil))
def N__law_alike : List Str := ["_law_found", "_law_due", "_law_k"]
theorem nd__law_alike : (N__law_alike).Nodup := by decide +kernel
theorem sc__law_alike : FnScope N__law_alike ["_law_found", "_law_due"] (defScope FH.s__law_alike) := ⟨rfl, rfl, rfl, nd__law_alike, rfl, by decide +kernel, by decide +kernel⟩
theorem ok__law_alike (C : Ctx P w K mg base T fd) : ∀ n, FnOk P w K mg base CX0 n (ad K "_law_alike") (fd "_law_alike") ["_law_found", "_law_due"] (spD P w K T 2 (PL.F_law_alike n))
  | 0 => fn0
  | n + 1 => by
    have nd := nd__law_alike
    have hself := ok__law_alike C n
    exact fnD (k := n) (O' := []) C.f__law_alike sc__law_alike rfl rfl (by decide) (fun A outer s H E hr =>
 (dss_cons (ds_if (dt_b (de_isTL rfl rfl C.z_isinstance rfl C.z_tuple rfl C.z_list (de_var 1))) (dss_cons (ds_if (dt_pw (dp_or (dt_not (dt_b (de_isTL rfl rfl C.z_isinstance rfl C.z_tuple rfl C.z_list (de_var 0)))) (dp_or1 (dct (dc_cmp (d_oNe hr.units) (de_is .tLst (hg := rfl) (hm := C.z_isinstance) (hg2 := rfl) (hm2 := C.z_list) (ha := (de_var 0))) (de_is .tLst (hg := rfl) (hm := C.z_isinstance) (hg2 := rfl) (hm2 := C.z_list) (ha := (de_var 1))) (nomark _)))))) (dss_cons (ds_ret (O' := []) de_bl)
 dss_nil) dss_nil)
 (dss_cons (ds_if (dct (dc_cmp (d_oNe hr.units) (de_len rfl C.z_len (de_var 0)) (de_len rfl C.z_len (de_var 1)) (nomark _))) (dss_cons (ds_ret (O' := []) de_bl)
 dss_nil) dss_nil)
 (dss_cons (ds_ret (O' := []) (dce (dc_cmp (d_oEq hr.units) (de_of (df_comp (own := [("_law_k", 2)]) rfl nd (dw_range rfl C.z_range (de_len rfl C.z_len (de_var 1))) (blkOk_by (N := N__law_alike) (sc := (defScope FH.s__law_alike)) (own := [("_law_k", 2)]) (by decide +kernel)) (fun _ _ _ _ _ => (dg_var 2 nd)) (fun _ _ _ _ _ => (dts_one (dt_not (dt_b (de_call hself hr rfl C.g__law_alike C.f__law_alike.kp C.b__law_alike (da_cons (de_ix (de_var 0) (de_var 2)) (da_cons (de_ix (de_var 1) (de_var 2)) da_nil)) (len_cons (len_cons len_nil))))))) (fun _ _ _ _ _ => (de_var 2)))) (de_of (df_lst da_nil)) (nomark _))))
 dss_nil))) dss_nil)
 (dss_cons (ds_if (dt_pw (dp_or (dct (dc_isN (de_var 1))) (dp_or1 (dt_b (de_is .tStr (hg := rfl) (hm := C.z_isinstance) (hg2 := rfl) (hm2 := C.z_str) (ha := (de_var 1))))))) (dss_cons (ds_ret (O' := []) (de_and (dce (dc_cmp (d_oEq hr.units) (de_var 0) (de_var 1) (nomark _))) (de_one (dce (dc_cmp (d_oEq hr.units) (de_is .tStr (hg := rfl) (hm := C.z_isinstance) (hg2 := rfl) (hm2 := C.z_str) (ha := (de_var 0))) (de_is .tStr (hg := rfl) (hm := C.z_isinstance) (hg2 := rfl) (hm2 := C.z_str) (ha := (de_var 1))) (nomark _))))))
 dss_nil) dss_nil)
 (dss_cons (ds_ret (O' := []) (de_and (de_is .tInt (hg := rfl) (hm := C.z_isinstance) (hg2 := rfl) (hm2 := C.z_int) (ha := (de_var 0))) (de_and (dce (dc_cmp (d_oEq hr.units) (de_is .tBool (hg := rfl) (hm := C.z_isinstance) (hg2 := rfl) (hm2 := C.z_bool) (ha := (de_var 0))) (de_is .tBool (hg := rfl) (hm := C.z_isinstance) (hg2 := rfl) (hm2 := C.z_bool) (ha := (de_var 1))) (nomark _))) (de_one (dce (dc_cmp (d_oEq hr.units) (de_var 0) (de_var 1) (nomark _)))))))
 dss_nil))))
def N__law_ratio : List Str := ["_law_top", "_law_bottom", "_law_one", "_law_other"]
theorem nd__law_ratio : (N__law_ratio).Nodup := by decide +kernel
theorem sc__law_ratio : FnScope N__law_ratio ["_law_top", "_law_bottom"] (defScope FH.s__law_ratio) := ⟨rfl, rfl, rfl, nd__law_ratio, rfl, by decide +kernel, by decide +kernel⟩
theorem ok__law_ratio (C : Ctx P w K mg base T fd) : FnOk P w K mg base CX0 1 (ad K "_law_ratio") (fd "_law_ratio") ["_law_top", "_law_bottom"] (spD P w K T 2 PL.F_law_ratio) := by
  have nd := nd__law_ratio
  exact fnD (k := 0) (O' := []) C.f__law_ratio sc__law_ratio rfl rfl (by decide) (fun A outer s H E hr =>
 (dss_cons (ds_par (parN2 rfl nd mono_tA (da_cons (de_abs rfl C.z_abs (de_var 0)) (da_cons (de_abs rfl C.z_abs (de_var 1)) da_nil))))
 (dss_cons (ds_while 3 hpX (dct (dc_cmp (d_oNe hr.units) (de_var 3) de_int (nomark _))) (dss_cons (ds_par (parN2 rfl nd mono_tA (da_cons (de_var 3) (da_cons (de_bin d_oMod (de_toInt rfl C.z_int (de_var 2)) (de_var 3)) da_nil))))
 dss_nil))
 (dss_cons (ds_ret (O' := []) (de_if (dct (dc_cmp (d_oGt) (de_var 1) de_int (nomark _))) (de_tup (da_cons (de_bin d_oDivW (de_var 0) (de_var 2)) (da_cons (de_bin d_oDivW (de_var 1) (de_var 2)) da_nil))) (de_tup (da_cons (de_bin d_oSub de_int (de_bin d_oDivW (de_var 0) (de_var 2))) (da_cons (de_bin d_oSub de_int (de_bin d_oDivW (de_var 1) (de_var 2))) da_nil)))))
 dss_nil))))
def N__law_plus : List Str := ["_law_one", "_law_other"]
theorem nd__law_plus : (N__law_plus).Nodup := by decide +kernel
theorem sc__law_plus : FnScope N__law_plus ["_law_one", "_law_other"] (defScope FH.s__law_plus) := ⟨rfl, rfl, rfl, nd__law_plus, rfl, by decide +kernel, by decide +kernel⟩
theorem ok__law_plus (C : Ctx P w K mg base T fd) : FnOk P w K mg base CX0 2 (ad K "_law_plus") (fd "_law_plus") ["_law_one", "_law_other"] (spD P w K T 2 PL.F_law_plus) := by
  have nd := nd__law_plus
  exact fnD (k := 1) (O' := []) C.f__law_plus sc__law_plus rfl rfl (by decide) (fun A outer s H E hr =>
 (dss_cons (ds_ret (O' := []) (de_call ((ok__law_ratio C).mono (by decide)) hr rfl C.g__law_ratio C.f__law_ratio.kp C.b__law_ratio (da_cons (de_bin d_oAdd (de_bin d_oMul (de_ix (de_var 0) de_int) (de_ix (de_var 1) de_int)) (de_bin d_oMul (de_ix (de_var 1) de_int) (de_ix (de_var 0) de_int))) (da_cons (de_bin d_oMul (de_ix (de_var 0) de_int) (de_ix (de_var 1) de_int)) da_nil)) (len_cons (len_cons len_nil))))
 dss_nil))
def N__law_by : List Str := ["_law_one", "_law_other"]
theorem nd__law_by : (N__law_by).Nodup := by decide +kernel
theorem sc__law_by : FnScope N__law_by ["_law_one", "_law_other"] (defScope FH.s__law_by) := ⟨rfl, rfl, rfl, nd__law_by, rfl, by decide +kernel, by decide +kernel⟩
theorem ok__law_by (C : Ctx P w K mg base T fd) : FnOk P w K mg base CX0 2 (ad K "_law_by") (fd "_law_by") ["_law_one", "_law_other"] (spD P w K T 2 PL.F_law_by) := by
  have nd := nd__law_by
  exact fnD (k := 1) (O' := []) C.f__law_by sc__law_by rfl rfl (by decide) (fun A outer s H E hr =>
 (dss_cons (ds_ret (O' := []) (de_call ((ok__law_ratio C).mono (by decide)) hr rfl C.g__law_ratio C.f__law_ratio.kp C.b__law_ratio (da_cons (de_bin d_oMul (de_ix (de_var 0) de_int) (de_ix (de_var 1) de_int)) (da_cons (de_bin d_oMul (de_ix (de_var 0) de_int) (de_ix (de_var 1) de_int)) da_nil)) (len_cons (len_cons len_nil))))
 dss_nil))
def N__law_deputies : List Str := ["_law_row", "_law_size", "_law_found", "_law_person", "_law_one"]
theorem nd__law_deputies : (N__law_deputies).Nodup := by decide +kernel
theorem sc__law_deputies : FnScope N__law_deputies ["_law_row", "_law_size"] (defScope FH.s__law_deputies) := ⟨rfl, rfl, rfl, nd__law_deputies, rfl, by decide +kernel, by decide +kernel⟩
theorem ok__law_deputies (C : Ctx P w K mg base T fd) : FnOk P w K mg base CX0 2 (ad K "_law_deputies") (fd "_law_deputies") ["_law_row", "_law_size"] (spD P w K T 2 PL.F_law_deputies) := by
  have nd := nd__law_deputies
  exact fnD (k := 1) (O' := []) C.f__law_deputies sc__law_deputies rfl rfl (by decide) (fun A outer s H E hr =>
 (dss_cons (dso_set 2 nd (df_lst da_nil))
 (dss_cons (ds_for (vs := [3]) hpX rfl (dw_range rfl C.z_range (de_var 1)) (dg_var 3 nd) (dss_cons (ds_set 4 nd (de_bin d_oSub (de_call ((ok__law_taken C).mono (by decide)) hr rfl C.g__law_taken C.f__law_taken.kp C.b__law_taken (da_cons (de_var 0) (da_cons (de_var 1) da_nil)) (len_cons (len_cons len_nil))) de_int))
 (dss_cons (ds_app 2 (de_bin d_oAdd (de_var 4) (de_toInt rfl C.z_int (dce (dc_cmp (d_oGe) (de_var 4) (de_var 3) (nomark _))))))
 dss_nil)))
 (dss_pub 2 (O1 := []) (h := (dss_cons (ds_ret (O' := []) (de_tuple rfl C.z_tuple (de_var 2)))
 dss_nil))))))
def N__law_chain : List Str := ["_law_deputies_here", "_law_person", "_law_found", "_law_turn"]
theorem nd__law_chain : (N__law_chain).Nodup := by decide +kernel
theorem sc__law_chain : FnScope N__law_chain ["_law_deputies_here", "_law_person"] (defScope FH.s__law_chain) := ⟨rfl, rfl, rfl, nd__law_chain, rfl, by decide +kernel, by decide +kernel⟩
theorem ok__law_chain (C : Ctx P w K mg base T fd) : FnOk P w K mg base CX0 1 (ad K "_law_chain") (fd "_law_chain") ["_law_deputies_here", "_law_person"] (spD P w K T 2 PL.F_law_chain) := by
  have nd := nd__law_chain
  exact fnD (k := 0) (O' := []) C.f__law_chain sc__law_chain rfl rfl (by decide) (fun A outer s H E hr =>
 (dss_cons (dso_set 2 nd (df_lst da_nil))
 (dss_cons (ds_for (vs := [3]) hpX rfl (dw_range rfl C.z_range (de_len rfl C.z_len (de_var 0))) (dg_var 3 nd) (dss_cons (ds_if (dt_pw (dp_and (dct (dc_cmp (d_oNe hr.units) (de_var 1) (de_neg de_int) (nomark _))) (dp_and1 (dct (dc_notInO 2 (de_var 1)))))) (dss_cons (ds_app 2 (de_var 1))
 (dss_cons (ds_set 1 nd (de_ix (de_var 0) (de_var 1)))
 dss_nil)) dss_nil)
 dss_nil))
 (dss_pub 2 (O1 := []) (h := (dss_cons (ds_ret (O' := []) (de_var 2))
 dss_nil))))))
def N__law_holder : List Str := ["_law_deputies_here", "_law_gone", "_law_person", "_law_here", "_law_seen", "_law_turn"]
theorem nd__law_holder : (N__law_holder).Nodup := by decide +kernel
theorem sc__law_holder : FnScope N__law_holder ["_law_deputies_here", "_law_gone", "_law_person"] (defScope FH.s__law_holder) := ⟨rfl, rfl, rfl, nd__law_holder, rfl, by decide +kernel, by decide +kernel⟩
theorem ok__law_holder (C : Ctx P w K mg base T fd) : FnOk P w K mg base CX0 1 (ad K "_law_holder") (fd "_law_holder") ["_law_deputies_here", "_law_gone", "_law_person"] (spD P w K T 3 PL.F_law_holder) := by
  have nd := nd__law_holder
  exact fnD (k := 0) (O' := []) C.f__law_holder sc__law_holder rfl rfl (by decide) (fun A outer s H E hr =>
 (dss_cons (ds_parO 1 4 (parN2 rfl nd mono_tAo (da_skip (de_var 2) (da_own (df_lst da_nil) da_nil))))
 (dss_cons (ds_for (vs := [5]) hpX rfl (dw_range rfl C.z_range (de_bin d_oAdd (de_len rfl C.z_len (de_var 0)) de_int)) (dg_var 5 nd) (dss_cons (ds_if (dt_pw (dp_or (dct (dc_cmp (d_oEq hr.units) (de_var 3) (de_neg de_int) (nomark _))) (dp_or1 (dct (dc_inO 4 (de_var 3)))))) (dss_cons (ds_ret (O' := [4]) (de_neg de_int))
 dss_nil) dss_nil)
 (dss_cons (ds_if (dct (dc_cmp (d_oNotIn) (de_var 3) (de_var 1) (by rfl))) (dss_cons (ds_ret (O' := [4]) (de_var 3))
 dss_nil) dss_nil)
 (dss_cons (ds_app 4 (de_var 3))
 (dss_cons (ds_set 3 nd (de_ix (de_var 0) (de_var 3)))
 dss_nil)))))
 (dss_cons (ds_ret (O' := []) (de_neg de_int))
 dss_nil))))
def N__law_orders : List Str := ["_law_some", "_law_found", "_law_k", "_law_rest"]
theorem nd__law_orders : (N__law_orders).Nodup := by decide +kernel
theorem sc__law_orders : FnScope N__law_orders ["_law_some"] (defScope FH.s__law_orders) := ⟨rfl, rfl, rfl, nd__law_orders, rfl, by decide +kernel, by decide +kernel⟩
theorem ok__law_orders (C : Ctx P w K mg base T fd) : ∀ n, FnOk P w K mg base CX0 n (ad K "_law_orders") (fd "_law_orders") ["_law_some"] (spD P w K T 1 (PL.F_law_orders n))
  | 0 => fn0
  | n + 1 => by
    have nd := nd__law_orders
    have hself := ok__law_orders C n
    exact fnD (k := n) (O' := []) C.f__law_orders sc__law_orders rfl rfl (by decide) (fun A outer s H E hr =>
 (dss_cons (ds_if (dct (dc_cmp (d_oEq hr.units) (de_var 0) (de_of (df_lst da_nil)) (nomark _))) (dss_cons (ds_ret (O' := []) (de_of (df_lst (da_cons (de_tup da_nil) da_nil))))
 dss_nil) dss_nil)
 (dss_cons (ds_set 1 nd (de_of (df_lst da_nil)))
 (dss_cons (ds_for (vs := [2]) hpX rfl (dw_range rfl C.z_range (de_len rfl C.z_len (de_var 0))) (dg_var 2 nd) (dss_cons (ds_set 1 nd (de_bin d_oCatL (de_var 1) (de_of (df_comp (own := [("_law_rest", 3)]) rfl nd (dw_seq (de_call hself hr rfl C.g__law_orders C.f__law_orders.kp C.b__law_orders (da_cons (de_bin d_oCatL (de_to (de_var 0) (de_var 2)) (de_from (de_var 0) (de_bin d_oAdd (de_var 2) de_int))) da_nil) (len_cons len_nil))) (blkOk_by (N := N__law_orders) (sc := (defScope FH.s__law_orders)) (own := [("_law_rest", 3)]) (by decide +kernel)) (fun _ _ _ _ _ => (dg_var 3 nd)) (fun _ _ _ _ _ => dts_nil) (fun _ _ _ _ _ => (de_bin d_oCatT (de_tup (da_cons (de_ix (de_var 0) (de_var 2)) da_nil)) (de_var 3)))))))
 dss_nil))
 (dss_cons (ds_ret (O' := []) (de_var 1))
 dss_nil)))))
def N__law_order : List Str := ["_law_row", "_law_size", "_law_found", "_law_left", "_law_turn", "_law_one", "_law_k"]
theorem nd__law_order : (N__law_order).Nodup := by decide +kernel
theorem sc__law_order : FnScope N__law_order ["_law_row", "_law_size"] (defScope FH.s__law_order) := ⟨rfl, rfl, rfl, nd__law_order, rfl, by decide +kernel, by decide +kernel⟩
theorem ok__law_order (C : Ctx P w K mg base T fd) : FnOk P w K mg base CX0 3 (ad K "_law_order") (fd "_law_order") ["_law_row", "_law_size"] (spD P w K T 2 PL.F_law_order) := by
  have nd := nd__law_order
  exact fnD (k := 2) (O' := []) C.f__law_order sc__law_order rfl rfl (by decide) (fun A outer s H E hr =>
 (dss_cons (ds_par (parN2 rfl nd mono_tA (da_cons (de_tup da_nil) (da_cons (de_of (df_listRg rfl rfl C.z_list rfl C.z_range (de_var 1))) da_nil))))
 (dss_cons (ds_for (vs := [4]) hpX rfl (dw_range rfl C.z_range (de_var 1)) (dg_var 4 nd) (dss_cons (ds_set 5 nd (de_call ((ok__law_pick C).mono (by decide)) hr rfl C.g__law_pick C.f__law_pick.kp C.b__law_pick (da_cons (de_var 0) (da_cons (de_var 3) da_nil)) (len_cons (len_cons len_nil))))
 (dss_cons (ds_par (parN2 rfl nd mono_tA (da_cons (de_bin d_oCatT (de_var 2) (de_tup (da_cons (de_var 5) da_nil))) (da_cons (de_of (df_comp (own := [("_law_k", 6)]) rfl nd (dw_seq (de_var 3)) (blkOk_by (N := N__law_order) (sc := (defScope FH.s__law_order)) (own := [("_law_k", 6)]) (by decide +kernel)) (fun _ _ _ _ _ => (dg_var 6 nd)) (fun _ _ _ _ _ => (dts_one (dct (dc_cmp (d_oNe hr.units) (de_var 6) (de_var 5) (nomark _))))) (fun _ _ _ _ _ => (de_var 6)))) da_nil))))
 dss_nil)))
 (dss_cons (ds_ret (O' := []) (de_var 2))
 dss_nil))))
def N__law_handed : List Str := ["_law_deputies_here", "_law_order_here", "_law_person", "_law_found", "_law_k", "_law_there"]
theorem nd__law_handed : (N__law_handed).Nodup := by decide +kernel
theorem sc__law_handed : FnScope N__law_handed ["_law_deputies_here", "_law_order_here", "_law_person"] (defScope FH.s__law_handed) := ⟨rfl, rfl, rfl, nd__law_handed, rfl, by decide +kernel, by decide +kernel⟩
theorem ok__law_handed (C : Ctx P w K mg base T fd) : FnOk P w K mg base CX0 2 (ad K "_law_handed") (fd "_law_handed") ["_law_deputies_here", "_law_order_here", "_law_person"] (spD P w K T 3 PL.F_law_handed) := by
  have nd := nd__law_handed
  exact fnD (k := 1) (O' := []) C.f__law_handed sc__law_handed rfl rfl (by decide) (fun A outer s H E hr =>
 (dss_cons (dso_set 3 nd (df_lst (da_cons (de_var 2) da_nil)))
 (dss_cons (ds_for (vs := [4]) hpX rfl (dw_range rfl C.z_range (de_len rfl C.z_len (de_var 1))) (dg_var 4 nd) (dss_cons (ds_set 5 nd (de_call ((ok__law_holder C).mono (by decide)) hr rfl C.g__law_holder C.f__law_holder.kp C.b__law_holder (da_cons (de_var 0) (da_cons (de_to (de_var 1) (de_bin d_oAdd (de_var 4) de_int)) (da_cons (de_var 2) da_nil))) (len_cons (len_cons (len_cons len_nil)))))
 (dss_cons (ds_if (dct (dc_cmp (d_oNe hr.units) (de_var 5) (de_ixO 3 (de_neg de_int)) (nomark _))) (dss_cons (ds_app 3 (de_var 5))
 dss_nil) dss_nil)
 dss_nil)))
 (dss_pub 3 (O1 := []) (h := (dss_cons (ds_ret (O' := []) (de_var 3))
 dss_nil))))))
def N_law : List Str := ["_law_script", "_law_row", "_law_size", "_law_deputies_here", "_law_other", "_law_every", "_law_sums", "_law_one", "_law_k", "_law_best", "_law_found", "_law_value", "_law_due", "_law_names", "_law_order_here", "_law_weights", "_law_person", "_law_told", "_law_whole", "_law_counts", "_law_chance", "_law_left", "_law_at", "_law_some"]
theorem nd_law : (N_law).Nodup := by decide +kernel
theorem sc_law : FnScope N_law ["_law_script"] (defScope FH.s_law) := ⟨rfl, rfl, rfl, nd_law, rfl, by decide +kernel, by decide +kernel⟩
theorem der_law (C : Ctx P w K mg base T fd) (A : Around) (outer : List Env) (s : Shared) (H : Hp) (E : XK) (hr : Room 8 (A.deeper (envOfC "law" (defScope FH.s_law) s.heap.objs.size (ad K "law") (.ref (cda K "law"))))) :
  DSs (cxOf CX0 P w K mg base N_law "law" (defScope FH.s_law) (ad K "law") (.ref (cda K "law")) A outer s H E) T [] [] (defBody FH.s_law).tail PL.b_law := by
  have nd := nd_law
  exact (dss_cons (ds_set 2 nd (de_bin d_oAdd de_int (de_call ((ok__law_taken C).mono (by decide)) hr rfl C.g__law_taken C.f__law_taken.kp C.b__law_taken (da_cons (de_var 1) (da_cons de_int da_nil)) (len_cons (len_cons len_nil)))))
 (dss_cons (ds_par (parNG rfl mono_tA (da_cons (de_call ((ok__law_deputies C).mono (by decide)) hr rfl C.g__law_deputies C.f__law_deputies.kp C.b__law_deputies (da_cons (de_var 1) (da_cons (de_var 2) da_nil)) (len_cons (len_cons len_nil))) (da_cons (de_call ((ok__law_deputies C).mono (by decide)) hr rfl C.g__law_deputies C.f__law_deputies.kp C.b__law_deputies (da_cons (de_var 1) (da_cons (de_var 2) da_nil)) (len_cons (len_cons len_nil))) (da_cons (de_call ((ok__law_orders C 6).mono (by decide)) hr rfl C.g__law_orders C.f__law_orders.kp C.b__law_orders (da_cons (de_of (df_listRg rfl rfl C.z_list rfl C.z_range (de_var 2))) da_nil) (len_cons len_nil)) da_nil))) (gsa_cons nd (gsa_cons nd (gsa_cons nd gsa_nil)))))
 (dss_cons (ds_setLc 6 (own := [("_law_one", 7)]) rfl nd (dw_seq (de_var 5)) (blkOk_by (N := N_law) (sc := (defScope FH.s_law)) (own := [("_law_one", 7)]) (by decide +kernel)) (fun _ _ _ _ _ => (dg_var 7 nd)) (fun _ _ _ _ _ => dts_nil) (fun _ _ _ _ _ => (de_sum rfl rfl C.z_sum (de_of (df_comp (own := [("_law_k", 8)]) rfl nd (dw_range rfl C.z_range (de_var 2)) (blkOk_by (N := N_law) (sc := (relS _ (defScope FH.s_law))) (own := [("_law_k", 8)]) (by decide +kernel)) (fun _ _ _ _ _ => (dg_var 8 nd)) (fun _ _ _ _ _ => dts_nil) (fun _ _ _ _ _ => (de_bin d_oSub (de_len rfl C.z_len (de_call ((ok__law_handed C).mono (by decide)) hr rfl C.g__law_handed C.f__law_handed.kp C.b__law_handed (da_cons (de_var 3) (da_cons (de_var 7) (da_cons (de_var 8) da_nil))) (len_cons (len_cons (len_cons len_nil))))) de_int)))) (hT := cr_sumLT rfl))) (hsw := sw_true rfl rfl rfl (by decide +kernel)))
 (dss_cons (ds_par (parNG rfl mono_tA (da_cons (de_max rfl rfl C.z_max (de_var 6)) (da_cons (de_call ((ok_most_handings C).mono (by decide)) hr rfl C.g_most_handings C.f_most_handings.kp C.b_most_handings (da_cons (de_var 3) da_nil) (len_cons len_nil)) da_nil)) (gsa_cons nd (gsa_cons nd gsa_nil))))
 (dss_cons (ds_if (dt_pw (dp_or (dt_not (dt_b (de_is .tTup (hg := rfl) (hm := C.z_isinstance) (hg2 := rfl) (hm2 := C.z_tuple) (ha := (de_var 10))))) (dp_or (dct (dc_cmp (d_oNe hr.units) (de_len rfl C.z_len (de_var 10)) de_int (nomark _))) (dp_or (dct (dc_cmp (d_oNe hr.units) (de_ix (de_var 10) de_int) (de_var 9) (nomark _))) (dp_or (dct (dc_cmp (d_oNotInD hr.u65) (de_ix (de_var 10) de_int) (de_var 5) (by rfl))) (dp_or1 (dct (dc_cmp (d_oNe hr.units) (de_ix (de_var 6) (de_index hr.u65 (de_var 5) (de_ix (de_var 10) de_int))) (de_var 9) (nomark _))))))))) (dss_cons (ds_ret (O' := []) de_bl)
 dss_nil) dss_nil)
 (dss_cons (ds_for (vs := [11]) hpX rfl (dw_seq (de_bin d_oCatL (de_of (df_lst (da_cons (de_var 10) (da_cons (de_of (df_list rfl C.z_list (de_var 10))) (da_cons (de_tup (da_cons (de_bin d_oAdd (de_var 9) de_int) (da_cons (de_ix (de_var 10) de_int) da_nil))) (da_cons (de_tup (da_cons (de_var 9) (da_cons (de_of (df_list rfl C.z_list (de_ix (de_var 10) de_int))) da_nil))) (da_cons (de_tup (da_cons (de_var 9) (da_cons (de_tup da_nil) da_nil))) (da_cons de_non (da_cons de_int da_nil))))))))) (de_of (df_comp (own := [("_law_one", 7)]) rfl nd (dw_seq (de_var 5)) (blkOk_by (N := N_law) (sc := (defScope FH.s_law)) (own := [("_law_one", 7)]) (by decide +kernel)) (fun _ _ _ _ _ => (dg_var 7 nd)) (fun _ _ _ _ _ => dts_nil) (fun _ _ _ _ _ => (de_tup (da_cons (de_var 9) (da_cons (de_var 7) da_nil)))))))) (dg_var 11 nd) (dss_cons (ds_set 12 nd (de_and (de_is .tTup (hg := rfl) (hm := C.z_isinstance) (hg2 := rfl) (hm2 := C.z_tuple) (ha := (de_var 11))) (de_and (dce (dc_cmp (d_oEq hr.units) (de_len rfl C.z_len (de_var 11)) de_int (nomark _))) (de_and (dce (dc_cmp (d_oEq hr.units) (de_ix (de_var 11) de_int) (de_var 9) (nomark _))) (de_one (de_is .tTup (hg := rfl) (hm := C.z_isinstance) (hg2 := rfl) (hm2 := C.z_tuple) (ha := (de_ix (de_var 11) de_int))))))))
 (dss_cons (ds_set 12 nd (de_and (de_var 12) (de_and (dce (dc_cmp (d_oInD hr.u65) (de_ix (de_var 11) de_int) (de_var 5) (by rfl))) (de_one (dce (dc_cmp (d_oEq hr.units) (de_ix (de_var 6) (de_index hr.u65 (de_var 5) (de_ix (de_var 11) de_int))) (de_var 9) (nomark _)))))))
 (dss_cons (ds_if (dt_not (dt_b (de_call ((ok__law_alike C 6).mono (by decide)) hr rfl C.g__law_alike C.f__law_alike.kp C.b__law_alike (da_cons (de_call ((ok_shows_most_handings C).mono (by decide)) hr rfl C.g_shows_most_handings C.f_shows_most_handings.kp C.b_shows_most_handings (da_cons (de_var 3) (da_cons (de_var 11) da_nil)) (len_cons (len_cons len_nil))) (da_cons (de_var 12) da_nil)) (len_cons (len_cons len_nil))))) (dss_cons (ds_ret (O' := []) de_bl)
 dss_nil) dss_nil)
 dss_nil))))
 (dss_cons (dso_set 13 nd (df_lst da_nil))
 (dss_cons (ds_for (vs := [14]) hpX rfl (dw_seq (de_var 5)) (dg_var 14 nd) (dss_cons (dso_set 7 nd df_dictI)
 (dss_cons (ds_for (vs := [8]) hpX rfl (dw_range rfl C.z_range (de_var 2)) (dg_var 8 nd) (dss_cons (ds_putI 7 hr.u1 (de_if (dct (dc_cmp (d_oNe hr.units) (de_ix (de_var 3) (de_var 8)) (de_neg de_int) (nomark _))) (de_ix (de_var 14) (de_ix (de_var 3) (de_var 8))) (de_neg de_int)) (de_ix (de_var 14) (de_var 8)))
 dss_nil))
 (dss_cons (ds_app 13 (de_tuple rfl C.z_tuple (de_of (df_comp (own := [("_law_k", 8)]) rfl nd (dw_range rfl C.z_range (de_var 2)) (blkOk_by (N := N_law) (sc := (defScope FH.s_law)) (own := [("_law_k", 8)]) (by decide +kernel)) (fun _ _ _ _ _ => (dg_var 8 nd)) (fun _ _ _ _ _ => dts_nil) (fun _ _ _ _ _ => (de_getIO 7 hr.u1 (de_var 8)))))))
 (dss_pub 7 (O1 := [13]) (h := dss_nil))))))
 (dss_pub 13 (O1 := []) (h := (dss_cons (ds_if (dct (dc_cmp (d_oEq hr.units) (de_call ((ok__law_taken C).mono (by decide)) hr rfl C.g__law_taken C.f__law_taken.kp C.b__law_taken (da_cons (de_var 1) (da_cons de_int da_nil)) (len_cons (len_cons len_nil))) de_int (nomark _))) (dss_cons (ds_set 4 nd (de_call ((ok__law_pick C).mono (by decide)) hr rfl C.g__law_pick C.f__law_pick.kp C.b__law_pick (da_cons (de_var 1) (da_cons (de_var 13) da_nil)) (len_cons (len_cons len_nil))))
 dss_nil) dss_nil)
 (dss_cons (ds_if (dt_pw (dp_or (dt_not (dt_b (de_call ((ok__law_alike C 6).mono (by decide)) hr rfl C.g__law_alike C.f__law_alike.kp C.b__law_alike (da_cons (de_call ((ok_shape C).mono (by decide)) hr rfl C.g_shape C.f_shape.kp C.b_shape (da_cons (de_var 3) da_nil) (len_cons len_nil)) (da_cons (de_minT rfl hr.u65 rfl C.z_min (de_var 13)) da_nil)) (len_cons (len_cons len_nil))))) (dp_or1 (dt_not (dt_b (de_call ((ok__law_alike C 6).mono (by decide)) hr rfl C.g__law_alike C.f__law_alike.kp C.b__law_alike (da_cons (de_call ((ok_own_names C).mono (by decide)) hr rfl C.g_own_names C.f_own_names.kp C.b_own_names (da_cons (de_var 3) da_nil) (len_cons len_nil)) (da_cons (de_count hr.u65 (de_var 13) (de_var 3)) da_nil)) (len_cons (len_cons len_nil)))))))) (dss_cons (ds_ret (O' := []) de_bl)
 dss_nil) dss_nil)
 (dss_cons (ds_if (dt_not (dt_b (de_call ((ok__law_alike C 6).mono (by decide)) hr rfl C.g__law_alike C.f__law_alike.kp C.b__law_alike (da_cons (de_call ((ok_alike C).mono (by decide)) hr rfl C.g_alike C.f_alike.kp C.b_alike (da_cons (de_var 3) (da_cons (de_var 4) da_nil)) (len_cons (len_cons len_nil))) (da_cons (dce (dc_cmp (d_oInD hr.u65) (de_var 4) (de_var 13) (by rfl))) da_nil)) (len_cons (len_cons len_nil))))) (dss_cons (ds_ret (O' := []) de_bl)
 dss_nil) dss_nil)
 (dss_cons (ds_parO 2 17 (parNG rfl mono_tAo (da_skip (de_tuple rfl C.z_tuple (de_of (df_comp (own := [("_law_k", 8)]) rfl nd (dw_range rfl C.z_range (de_var 2)) (blkOk_by (N := N_law) (sc := (defScope FH.s_law)) (own := [("_law_k", 8)]) (by decide +kernel)) (fun _ _ _ _ _ => (dg_var 8 nd)) (fun _ _ _ _ _ => dts_nil) (fun _ _ _ _ _ => (de_bin d_oAdd de_int (de_call ((ok__law_taken C).mono (by decide)) hr rfl C.g__law_taken C.f__law_taken.kp C.b__law_taken (da_cons (de_var 1) (da_cons de_int da_nil)) (len_cons (len_cons len_nil)))))))) (da_skip (de_call ((ok__law_taken C).mono (by decide)) hr rfl C.g__law_taken C.f__law_taken.kp C.b__law_taken (da_cons (de_var 1) (da_cons (de_var 2) da_nil)) (len_cons (len_cons len_nil))) (da_own (df_lst da_nil) (da_cons (de_tup (da_cons de_int (da_cons de_int da_nil))) da_nil)))) (gsa_cons nd (gsa_cons nd (gsa_cons nd (gsa_cons nd gsa_nil))))))
 (dss_cons (ds_set 14 nd (de_call ((ok__law_order C).mono (by decide)) hr rfl C.g__law_order C.f__law_order.kp C.b__law_order (da_cons (de_var 1) (da_cons (de_var 2) da_nil)) (len_cons (len_cons len_nil))))
 (dss_cons (ds_for (vs := [8]) hpX rfl (dw_range rfl C.z_range (de_var 2)) (dg_var 8 nd) (dss_cons (ds_if (dct (dc_cmp (d_oEq hr.units) (de_call ((ok__law_taken C).mono (by decide)) hr rfl C.g__law_taken C.f__law_taken.kp C.b__law_taken (da_cons (de_var 1) (da_cons de_int da_nil)) (len_cons (len_cons len_nil))) de_int (nomark _))) (dss_cons (ds_app 17 (de_tup (da_cons (de_var 8) (da_cons (de_tuple rfl C.z_tuple (de_call ((ok__law_handed C).mono (by decide)) hr rfl C.g__law_handed C.f__law_handed.kp C.b__law_handed (da_cons (de_var 3) (da_cons (de_var 14) (da_cons (de_var 8) da_nil))) (len_cons (len_cons (len_cons len_nil))))) da_nil))))
 dss_nil) dss_nil)
 dss_nil))
 (dss_cons (dso_set 19 nd (df_repL (de_of (df_lst (da_cons (de_tup (da_cons de_int (da_cons de_int da_nil))) da_nil))) (de_bin d_oAdd (de_len rfl C.z_len (de_call ((ok__law_chain C).mono (by decide)) hr rfl C.g__law_chain C.f__law_chain.kp C.b__law_chain (da_cons (de_var 3) (da_cons (de_var 16) da_nil)) (len_cons (len_cons len_nil)))) de_int)))
 (dss_pub 17 (O1 := [19]) (h := (dss_cons (ds_for (vs := [7]) hpX rfl (dw_seq (de_var 5)) (dg_var 7 nd) (dss_cons (ds_par (parN2 rfl nd mono_tA (da_cons (de_tup (da_cons de_int (da_cons de_int da_nil))) (da_cons (de_sum rfl rfl C.z_sum (de_var 15) (hT := cr_sumLT rfl)) da_nil))))
 (dss_cons (ds_for (vs := [8]) hpX rfl (dw_seq (de_var 7)) (dg_var 8 nd) (dss_cons (ds_par (parN2 rfl nd mono_tA (da_cons (de_call ((ok__law_by C).mono (by decide)) hr rfl C.g__law_by C.f__law_by.kp C.b__law_by (da_cons (de_var 20) (da_cons (de_call ((ok__law_ratio C).mono (by decide)) hr rfl C.g__law_ratio C.f__law_ratio.kp C.b__law_ratio (da_cons (de_ix (de_var 15) (de_var 8)) (da_cons (de_var 21) da_nil)) (len_cons (len_cons len_nil))) da_nil)) (len_cons (len_cons len_nil))) (da_cons (de_bin d_oSub (de_var 21) (de_ix (de_var 15) (de_var 8))) da_nil))))
 dss_nil))
 (dss_cons (ds_if (dct (dc_cmp (d_oEq hr.units) (de_of (df_comp (own := [("_law_k", 8), ("_law_some", 23)]) rfl nd (dw_seq (de_var 17)) (blkOk_by (N := N_law) (sc := (defScope FH.s_law)) (own := [("_law_k", 8), ("_law_some", 23)]) (by decide +kernel)) (fun _ _ _ _ _ => (dg_tup rfl (dgs_cons (dg_var 8 nd) (dgs_cons (dg_var 23 nd) dgs_nil)))) (fun _ _ _ _ _ => (dts_one (dct (dc_cmp (d_oNe hr.units) (de_tuple rfl C.z_tuple (de_call ((ok__law_handed C).mono (by decide)) hr rfl C.g__law_handed C.f__law_handed.kp C.b__law_handed (da_cons (de_var 3) (da_cons (de_var 7) (da_cons (de_var 8) da_nil))) (len_cons (len_cons (len_cons len_nil))))) (de_var 23) (nomark _))))) (fun _ _ _ _ _ => (de_var 8)))) (de_of (df_lst da_nil)) (nomark _))) (dss_cons (ds_set 18 nd (de_call ((ok__law_plus C).mono (by decide)) hr rfl C.g__law_plus C.f__law_plus.kp C.b__law_plus (da_cons (de_var 18) (da_cons (de_var 20) da_nil)) (len_cons (len_cons len_nil))))
 dss_nil) dss_nil)
 (dss_cons (ds_set 22 nd (de_bin d_oSub (de_len rfl C.z_len (de_call ((ok__law_handed C).mono (by decide)) hr rfl C.g__law_handed C.f__law_handed.kp C.b__law_handed (da_cons (de_var 3) (da_cons (de_var 7) (da_cons (de_var 16) da_nil))) (len_cons (len_cons (len_cons len_nil))))) de_int))
 (dss_cons (ds_setIx 19 (de_call ((ok__law_plus C).mono (by decide)) hr rfl C.g__law_plus C.f__law_plus.kp C.b__law_plus (da_cons (de_ixO 19 (de_var 22)) (da_cons (de_var 20) da_nil)) (len_cons (len_cons len_nil))) (de_var 22))
 dss_nil))))))
 (dss_pub 19 (O1 := []) (h := (dss_cons (ds_ret (O' := []) (de_and (de_call ((ok__law_alike C 6).mono (by decide)) hr rfl C.g__law_alike C.f__law_alike.kp C.b__law_alike (da_cons (de_call ((ok_told_chance C).mono (by decide)) hr rfl C.g_told_chance C.f_told_chance.kp C.b_told_chance (da_cons (de_var 3) (da_cons (de_var 15) (da_cons (de_tuple rfl C.z_tuple (de_var 17)) da_nil))) (len_cons (len_cons (len_cons len_nil)))) (da_cons (de_var 18) da_nil)) (len_cons (len_cons len_nil))) (de_one (de_call ((ok__law_alike C 6).mono (by decide)) hr rfl C.g__law_alike C.f__law_alike.kp C.b__law_alike (da_cons (de_call ((ok_handing_chances_by C).mono (by decide)) hr rfl C.g_handing_chances_by C.f_handing_chances_by.kp C.b_handing_chances_by (da_cons (de_var 3) (da_cons (de_var 15) (da_cons (de_var 16) da_nil))) (len_cons (len_cons (len_cons len_nil)))) (da_cons (de_tuple rfl C.z_tuple (de_var 19)) da_nil)) (len_cons (len_cons len_nil))))))
 dss_nil)))))))))))))))))))))))
end
end DL
end
section
set_option Elab.async false
set_option autoImplicit false
set_option linter.all false
set_option maxRecDepth 100000
set_option maxHeartbeats 4000000
/-! the law's own def, and the end -/
namespace DL
open PySem PySem.Spec PyProof.Rows L2
section
variable {P : Program} {w : World} {K : PySem.W.Frag} {mg : Str → Option Value} {base : Heap} {T : List Addr} {fd : Str → FuncData}
def spLaw (K : PySem.W.Frag) (T : List Addr) : Sp := fun vs H Q _ => ∃ (a : Addr) (ns : List Int), vs = [.ref a] ∧ SqL K H a (ns.map V.int) ∧ (∀ p ∈ T, H p = some (.tbl #[])) ∧ ∀ H', Q (.bl true) H'
theorem law_split : ∃ st, defBody FH.s_law = st :: (defBody FH.s_law).tail := ⟨_, rfl⟩
theorem ok_law (C : Ctx P w K mg base T fd) : FnOk P w K mg base CX0 9 (ad K "law") (fd "law") ["_law_script"] (spLaw K T) := by
  obtain ⟨oc, od, dV, kV, doc, pm, an, cdv, ct, osl, hfd, lk, hcd, _, _⟩ := C.f_law.ex
  rw [hfd] at lk ⊢
  have nd := nd_law
  refine fn_of lk hcd sc_law (fun vs H Q E h => by obtain ⟨a, ns, rfl, _⟩ := h; rfl) fun A outer s H vs Q E hr hsp => ?_
  obtain ⟨c, rfl⟩ := He.codeIn_ref hcd
  have ec : cda K "law" = c := He.codeOf_eq (p := ("law", none)) lk rfl
  subst ec
  obtain ⟨a, ns, rfl, hS, hT, hQ⟩ := hsp
  have D := der_law C A outer s H E hr
  refine ⟨_, pss_cons (ps_set (i := 1) nd rfl (.inr rfl) (pe_lst (pa_cons (pe_var (i := 0) rfl (.inl rfl)) (pa_cons pe_int (pa_cons pe_int (pa_cons pe_int pa_nil)))))) D, ?_⟩
  refine ⟨_, rfl, (by decide : (4 : Nat) ≤ sizeLine), fun p hp => ?_⟩
  obtain ⟨r', hl⟩ := PL.law_true ns
  have hne : ∀ q o, H q = some o → q ≠ p := fun q o h e => by subst e; rw [hp] at h; cases h
  refine ⟨⟨upd H p (.lst [.ref a, .int 0, .int 13831, .int 0]), fun _ => none, fun _ => none, p, a, ns, T⟩, fun _ => none, [none, some .row] ++ List.replicate 22 none, ⟨ns, 0, 13831, 0⟩, _, rfl, ⟨?_, rfl, ?_, ?_, fun _ _ => rfl, fun _ _ h => (nomatch h), ?_⟩, ⟨rfl, fun _ _ h => (nomatch h), Same.refl _, Keep.refl, fun _ h _ => h, ⟨rfl, upd_same⟩, ?_, fun _ _ h => (nomatch h), ?_, fun i hi => absurd hi (by simp), fun i j d e a hi => absurd hi (by simp)⟩, hl, fun s' r2 σ' H' G' he => (nomatch he), fun d s' r2 O2 σ' H' G' v he R S Dv => ?_⟩
  · show upd H p _ p ≠ none
    rw [upd_same]; simp
  · intro q
    exact hne p _ (hT p q) rfl
  · intro q hq
    show upd H p _ q ≠ none
    rw [upd_ne (hne q _ (hT q hq)), hT q hq]; simp
  · rcases hS with h | h
    · refine .inl ⟨?_, ?_⟩
      · rcases h with h | ⟨o, h⟩
        · exact .inl (by show upd H p _ a = _; rw [upd_ne (hne a _ h)]; exact h)
        · exact .inr ⟨o, by show upd H p _ a = _; rw [upd_ne (hne a _ h)]; exact h⟩
      · rcases h with h | ⟨o, h⟩
        · exact ⟨hne a _ h, fun q => by have := hT a q; rw [h] at this; cases this⟩
        · exact ⟨hne a _ h, fun q => by have := hT a q; rw [h] at this; cases this⟩
    · exact .inr fun _ => .inr h
  · intro q hq
    exact ⟨#[], by show upd H p _ q = _; rw [upd_ne (hne q _ (hT q hq))]; exact hT q hq, trivial⟩
  · intro i d hi hd
    match i with
    | 0 => cases hd
    | 1 => cases hd; exact ⟨_, rfl, .row⟩
    | i + 2 =>
      have e : ([none, some PL.D.row] ++ List.replicate 22 none)[i + 2]? = (List.replicate 22 (none : Option PL.D))[i]? := by simp
      rw [e, List.getElem?_replicate] at hd
      split at hd <;> cases hd
  · cases he
    cases Dv
    exact hQ H'
end
def fdOf (K : PySem.W.Frag) (x : Str) : FuncData := match K.lookup (ad K x) with
  | some ⟨_, _, .func fd, _⟩ => fd
  | _ => default
theorem fn_all : ∀ d ∈ FH.fn, d.at_ = (d.name, none) ∧ d.dfl = [] ∧ d.kwd = [] := by
  have h : (FH.fn.all fun d => decide (d.at_ = (d.name, none)) && d.dfl.isEmpty && d.kwd.isEmpty) = true := by decide +kernel
  intro d hd
  have z := List.all_eq_true.mp h d hd
  simp only [Bool.and_eq_true, decide_eq_true_eq, List.isEmpty_iff] at z
  exact ⟨z.1.1, z.1.2, z.2⟩
theorem fn_glo : ∀ d ∈ FH.fn, He.Fa.glo d.name ∈ FH.fa := fun d hd => by
  have e : FH.fa.take 45 = FH.fn.map fun d => He.Fa.glo d.name := rfl
  exact List.mem_of_mem_take (i := 45) (by rw [e]; exact List.mem_map_of_mem (f := fun d : He.DefD => He.Fa.glo d.name) hd)
theorem fr_free : ∀ x ∈ frees, He.Fa.free x ∈ FH.fa := fun x hx => by
  have e : (FH.fa.drop 45).take 17 = frees.map He.Fa.free := rfl
  exact List.mem_of_mem_drop (i := 45) (List.mem_of_mem_take (i := 17) (by rw [e]; exact List.mem_map_of_mem hx))
theorem df_of {w : World} {K : PySem.W.Frag} {h : Heap} (c : He.SaysX FH.fa FH.fn [] FH.tf FH.ex w h K) : ∀ d ∈ FH.fn, FunD K d.name d.qual d.params d.body d.scope [] [] (He.fAd K d.at_) (fdOf K d.name) := fun d hd => by
  obtain ⟨fd, F⟩ := c.t.d.defs hd
  obtain ⟨e1, e2, e3⟩ := fn_all d hd
  unfold He.DefD.dvs He.DefD.kws at F
  rw [e2, e3] at F
  obtain ⟨oc, od, dV, kV, doc, pm, an, cdv, ct, osl, hfd, lk, _⟩ := F.ex
  have : fdOf K d.name = fd := by
    unfold fdOf ad
    rw [← e1, lk]
  rw [this]
  exact F
theorem ctx_of {P : Program} {w : World} {K : PySem.W.Frag} {h base : Heap} {mg : Str → Option Value} (c : He.SaysX FH.fa FH.fn [] FH.tf FH.ex w h K) (X : K.In base) (G : base.Ns mainGlobals mg) (tb : ∀ p ∈ FH.tf.map (He.cT K), GxR.TabB base mg p.1 p.2) :
    Ctx P w K mg base ((FH.tf.map (He.cT K)).map (·.2)) (fdOf K) where
  df := df_of c
  gl := fun d hd => by
    rw [(fn_all d hd).1]
    exact He.glo_ok X G (c.t.d.facts (fn_glo d hd))
  fr := fun x hx => He.free_ok X G (c.t.d.facts (fr_free x hx))
  gcd := PySem.W.mg_of X G (of_decide_eq_true c.more)
  mp := He.int_ok X G (c.t.d.facts (f := .int "MOST_PEOPLE" 6) (List.mem_of_getElem? (i := 62) rfl))
  mw := He.int_ok X G (c.t.d.facts (f := .int "MOST_WEIGHT" 60) (List.mem_of_getElem? (i := 63) rfl))
  tb := fun p hp => ⟨tb _ (List.mem_map_of_mem hp), List.mem_map_of_mem (List.mem_map_of_mem hp)⟩
end DL
open PySem PySem.W PySem.Calls PyProof.Rows
theorem PySem.Challenge.cw_firstthere_k31_whole_shapes_holds : PySem.Challenge.rw_firstthere_k31_whole_shapes.Holds := by
  w_on; o_law
  refine HandSHeadRun.head_imp (r := OpenLaw.row PySem.Challenge.rw_firstthere_k31_whole_shapes) (q := FH.qv) (H := FH.hk) (ob := FH.ob) (M := 3000) (loose := FH.names) (d := HandSHeadRun.topDef (OpenLaw.row PySem.Challenge.rw_firstthere_k31_whole_shapes).prog 66) (kwd := []) FH.ob_eq FH.run
    (by kernel_rfl) (by kernel_rfl) (by kernel_rfl) (by rfl) (by first | assumption | decide +kernel) (by decide +kernel) ⟨rfl, rfl, rfl, rfl, rfl, by decide +kernel⟩ ?hw ?hc
  case hw => w_witness2
  case hc =>
    refine LamX.walk_ofTsE (l := PySem.Challenge.rw_firstthere_k31_whole_shapes) (n := 63) (k := 9) (x := "_law_script") (CX := fun _ => L2.CX0) rfl (by decide) (by kernel_rfl) ⟨rfl, by decide, by decide⟩ ?F (fun _ _ _ _ _ z => z)
    intro w mg fa h Y G hmg0
    obtain ⟨K, KX, c⟩ := Y
    have hmg : mg ("law" : PySem.Str) = some (.ref fa) := by
      have e : (HandSHeadRun.topDef (OpenLaw.row PySem.Challenge.rw_firstthere_k31_whole_shapes).prog 66).name = ("law" : PySem.Str) := by kernel_rfl
      rw [← e]
      exact hmg0
    have e := hmg.symm.trans (He.glo_ok KX G (c.t.d.facts (f := .glo "law") (DL.fn_glo FH.d_law (List.mem_of_getElem? (i := 44) rfl))))
    cases e
    refine ⟨K, KX, DL.fdOf K "law", FH.tf.map (He.cT K), DL.spLaw K ((FH.tf.map (He.cT K)).map (·.2)), fun p hp => ?_, fun p hp => ?_, fun p hp => ?_, fun s u => ?_, fun H a ns hl hb hT hS => ⟨a, ns, rfl, hS, fun q hq => ?_, fun _ => rfl⟩, fun base KX' G' tb => ?_⟩
    · obtain ⟨q, hq, rfl⟩ := List.mem_map.mp hp
      exact c.empty q hq
    · obtain ⟨q, hq, rfl⟩ := List.mem_map.mp hp
      exact c.out q hq
    · obtain ⟨q, hq, rfl⟩ := List.mem_map.mp hp
      exact PySem.W.codeHd_of_K KX (c.hd q hq)
    · exact L2.FunD.bindsA (ps := ["_law_script"]) (DL.df_of c FH.d_law (List.mem_of_getElem? (i := 44) rfl)) (fun _ _ _ _ _ _ us hl => match us, hl with | [_], _ => rfl) s [u] rfl
    · obtain ⟨p, hp, rfl⟩ := List.mem_map.mp hq
      exact hT p hp
    · exact DL.ok_law (DL.ctx_of c KX' G' fun p hp => ⟨(tb p hp).code, (tb p hp).bm, (tb p hp).gP⟩)
end
