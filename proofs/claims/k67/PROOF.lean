import PyProof.Rows.All
import Wide.All
import OpenK.AllK
import Wide.FinOn
import KE.KStateDown
import Lean
import HandS.Base
import HandS.Call
import HandS.Ends
import HandS.More
import HandS.Words
import HandS.Defaults
import HandS.Head0
import HandS.Head1
import HandS.Head2
import HandS.HeadEnd
import HandS.HeadHook1
import HandS.HeadHook2
import PySem.Challenge.RW_shapetallies_k67_comparisons_as_certific
import HandS.ForMost
import PyProof.ReprReads
import HandS.TupAny
import HandS.Zip
import HandS.Walk
import HandS.Style
import HandS.Deep
import HandS.IsInst
import HandS.Wide
import HandS.Conv
import KE.GoesMore
import KE.GoesEnum
import HandS.NoneIn
import HandS.Comp
import PyProof.ZipIter
import PyProof.ListRange
import HandS.ExcValue
import PyProof.ReprRoads
import KE.KRevSl
import HandS.Codes
set_option Elab.async false
set_option linter.all false
set_option maxRecDepth 100000
set_option maxHeartbeats 0
namespace HK67
open PySem PySem.Spec PyProof.Rows L2
def top (i : Nat) : Stmt := PySem.Challenge.pw_shapetallies_k67_comparisons_as_certific.main.body.getD i (.Pass ⟨0, 0, 0, 0⟩)
def dp_is_integer : He.DefD := ⟨("is_integer", none), "is_integer", "is_integer", defArgs (top 21), defBody (top 21), defScope (top 21), [], []⟩
def dp_is_between : He.DefD := ⟨("is_between", none), "is_between", "is_between", defArgs (top 22), defBody (top 22), defScope (top 22), [], []⟩
def dp_common_divisor : He.DefD := ⟨("common_divisor", none), "common_divisor", "common_divisor", defArgs (top 25), defBody (top 25), defScope (top 25), [], []⟩
def dp_common_multiple : He.DefD := ⟨("common_multiple", none), "common_multiple", "common_multiple", defArgs (top 26), defBody (top 26), defScope (top 26), [], []⟩
def dp_is_fraction : He.DefD := ⟨("is_fraction", none), "is_fraction", "is_fraction", defArgs (top 27), defBody (top 27), defScope (top 27), [], []⟩
def dp_is_form : He.DefD := ⟨("is_form", none), "is_form", "is_form", defArgs (top 86), defBody (top 86), defScope (top 86), [], []⟩
def dp_over_one : He.DefD := ⟨("over_one", none), "over_one", "over_one", defArgs (top 87), defBody (top 87), defScope (top 87), [], []⟩
def dp_bottom_of : He.DefD := ⟨("bottom_of", none), "bottom_of", "bottom_of", defArgs (top 88), defBody (top 88), defScope (top 88), [], []⟩
def dp_quotient : He.DefD := ⟨("quotient", none), "quotient", "quotient", defArgs (top 89), defBody (top 89), defScope (top 89), [], []⟩
def dp_place_of : He.DefD := ⟨("place_of", none), "place_of", "place_of", defArgs (top 90), defBody (top 90), defScope (top 90), [], []⟩
def dp_tells_integers : He.DefD := ⟨("tells_integers", none), "tells_integers", "tells_integers", defArgs (top 91), defBody (top 91), defScope (top 91), [], []⟩
def dp_shortest : He.DefD := ⟨("shortest", none), "shortest", "shortest", defArgs (top 92), defBody (top 92), defScope (top 92), [], []⟩
def dp_told_at : He.DefD := ⟨("told_at", none), "told_at", "told_at", defArgs (top 93), defBody (top 93), defScope (top 93), [], []⟩
def dp_is_told : He.DefD := ⟨("is_told", none), "is_told", "is_told", defArgs (top 94), defBody (top 94), defScope (top 94), [], []⟩
def dp_quotient_is : He.DefD := ⟨("quotient_is", none), "quotient_is", "quotient_is", defArgs (top 95), defBody (top 95), defScope (top 95), [], []⟩
def dp_stays_at_most : He.DefD := ⟨("stays_at_most", none), "stays_at_most", "stays_at_most", defArgs (top 96), defBody (top 96), defScope (top 96), [], []⟩
def dp_at_most_shown : He.DefD := ⟨("at_most_shown", none), "at_most_shown", "at_most_shown", defArgs (top 104), defBody (top 104), defScope (top 104), [], []⟩
def dp_accepts : He.DefD := ⟨("accepts", none), "accepts", "accepts", defArgs (top 105), defBody (top 105), defScope (top 105), [], []⟩
def df_law_purse : He.DefD := ⟨("_law_purse", none), "_law_purse", "_law_purse", defArgs (top 107), defBody (top 107), defScope (top 107), [], []⟩
def df_law_draw : He.DefD := ⟨("_law_draw", none), "_law_draw", "_law_draw", defArgs (top 108), defBody (top 108), defScope (top 108), [], []⟩
def df_law_asked : He.DefD := ⟨("_law_asked", none), "_law_asked", "_law_asked", defArgs (top 109), defBody (top 109), defScope (top 109), [], []⟩
def df_law_lowest : He.DefD := ⟨("_law_lowest", none), "_law_lowest", "_law_lowest", defArgs (top 110), defBody (top 110), defScope (top 110), [], []⟩
def df_law_sixths : He.DefD := ⟨("_law_sixths", none), "_law_sixths", "_law_sixths", defArgs (top 111), defBody (top 111), defScope (top 111), [], []⟩
def df_law_form_of : He.DefD := ⟨("_law_form_of", none), "_law_form_of", "_law_form_of", defArgs (top 112), defBody (top 112), defScope (top 112), [], []⟩
def df_law_told : He.DefD := ⟨("_law_told", none), "_law_told", "_law_told", defArgs (top 113), defBody (top 113), defScope (top 113), [], []⟩
def df_law_period : He.DefD := ⟨("_law_period", none), "_law_period", "_law_period", defArgs (top 114), defBody (top 114), defScope (top 114), [], []⟩
def df_law_starts_well : He.DefD := ⟨("_law_starts_well", none), "_law_starts_well", "_law_starts_well", defArgs (top 115), defBody (top 115), defScope (top 115), [], []⟩
def df_law_start_holds : He.DefD := ⟨("_law_start_holds", none), "_law_start_holds", "_law_start_holds", defArgs (top 116), defBody (top 116), defScope (top 116), [], []⟩
def df_law_holds : He.DefD := ⟨("_law_holds", none), "_law_holds", "_law_holds", defArgs (top 117), defBody (top 117), defScope (top 117), [], []⟩
def df_law_paper : He.DefD := ⟨("_law_paper", none), "_law_paper", "_law_paper", defArgs (top 118), defBody (top 118), defScope (top 118), [], []⟩
def df_law_bent_paper : He.DefD := ⟨("_law_bent_paper", none), "_law_bent_paper", "_law_bent_paper", defArgs (top 119), defBody (top 119), defScope (top 119), [], []⟩
def df_law_rows : He.DefD := ⟨("_law_rows", none), "_law_rows", "_law_rows", defArgs (top 120), defBody (top 120), defScope (top 120), [], []⟩
def df_law_pair : He.DefD := ⟨("_law_pair", none), "_law_pair", "_law_pair", defArgs (top 121), defBody (top 121), defScope (top 121), [], []⟩
def df_law_promise : He.DefD := ⟨("_law_promise", none), "_law_promise", "_law_promise", defArgs (top 122), defBody (top 122), defScope (top 122), [], []⟩
def df_law_bent : He.DefD := ⟨("_law_bent", none), "_law_bent", "_law_bent", defArgs (top 123), defBody (top 123), defScope (top 123), [], []⟩
def df_law_right : He.DefD := ⟨("_law_right", none), "_law_right", "_law_right", defArgs (top 124), defBody (top 124), defScope (top 124), [], []⟩
def dp_law : He.DefD := ⟨("law", none), "law", "law", defArgs (top 125), defBody (top 125), defScope (top 125), [], []⟩
def fn : List He.DefD := [dp_is_integer, dp_is_between, dp_common_divisor, dp_common_multiple, dp_is_fraction, dp_is_form, dp_over_one, dp_bottom_of, dp_quotient, dp_place_of, dp_tells_integers, dp_shortest, dp_told_at, dp_is_told, dp_quotient_is, dp_stays_at_most, dp_at_most_shown, dp_accepts, df_law_purse, df_law_draw, df_law_asked, df_law_lowest, df_law_sixths, df_law_form_of, df_law_told, df_law_period, df_law_starts_well, df_law_start_holds, df_law_holds, df_law_paper, df_law_bent_paper, df_law_rows, df_law_pair, df_law_promise, df_law_bent, df_law_right, dp_law]
def fa : List He.Fa := (([.glo "is_integer", .glo "is_between", .glo "common_divisor", .glo "common_multiple", .glo "is_fraction", .glo "is_form", .glo "over_one", .glo "bottom_of", .glo "quotient", .glo "place_of", .glo "tells_integers", .glo "shortest"] : List He.Fa) ++ ([.glo "told_at", .glo "is_told", .glo "quotient_is", .glo "stays_at_most", .glo "at_most_shown", .glo "accepts", .glo "_law_purse", .glo "_law_draw", .glo "_law_asked", .glo "_law_lowest", .glo "_law_sixths", .glo "_law_form_of"] : List He.Fa) ++ ([.glo "_law_told", .glo "_law_period", .glo "_law_starts_well", .glo "_law_start_holds", .glo "_law_holds", .glo "_law_paper", .glo "_law_bent_paper", .glo "_law_rows", .glo "_law_pair", .glo "_law_promise", .glo "_law_bent", .glo "_law_right"] : List He.Fa) ++ ([.glo "law", .free "len", .free "abs", .free "min", .free "max", .free "sum", .free "all", .free "any", .free "int", .free "list", .free "tuple", .free "divmod"] : List He.Fa) ++ ([.free "str", .free "range", .free "enumerate", .free "zip", .free "isinstance", .free "repr", .free "bool", .int "MOST_LENGTH" 1000, .int "MOST_DEGREE" 12] : List He.Fa))
abbrev R : PySem.W.OpenRow := PySem.W.OpenLaw.row PySem.Challenge.rw_shapetallies_k67_comparisons_as_certific
abbrev hk : PySem.W.Hook := He.hookD 2 fa fn
def ob (s : PySem.W.SharedT) : He.AlD := He.obsDG 2 fa fn (HandSHeadRun.getT s)
theorem ob_eq (s : PySem.W.SharedT) : ob s = hk.obs s.abs := He.obsDG_eq (HandSHeadRun.getT_eq s)
def nms : List Str := ((["_wall", "WrongValue", "InvalidNumber", "InvalidText", "InvalidColour", "NotAPicture", "InvalidLines", "InvalidLeast", "InvalidCorners", "NoAnswer", "Unbounded", "MOST_LINES"] : List Str) ++ (["MOST_CORNERS", "MOST_FIRST", "MOST_FIRST_TWO", "MOST_LISTED", "MOST_LENGTH", "MOST_DEGREE", "DIGITS", "is_integer", "is_between", "check_number", "number_of", "common_divisor"] : List Str) ++ (["common_multiple", "is_fraction", "text_of_sum", "join_of", "summand_of", "sum_of_text", "WORDS_pictures", "END", "FACTOR_pictures", "DISTANCE_pictures", "is_line", "check_lines"] : List Str) ++ (["leads_away", "is_bounded", "is_bounded_pictures", "line_of_text", "Picture", "check_integer", "check_picture", "SIZES", "WORDS_shapes", "PLACES", "FACTOR_shapes", "DISTANCE_shapes"] : List Str) ++ (["MOST_COLOURS", "is_move", "is_corner", "check_corners", "check_least", "check_factors", "is_colour", "differences", "is_bounded_shapes", "text_of_move", "text_of_sizes", "text_of"] : List Str) ++ (["least_of_text", "corner_of_text", "colour_of_text", "Shape", "rows_told", "determinant", "with_column", "meeting", "picks", "values_told", "turn_of", "edge_told"] : List Str) ++ (["heights_told", "widths_told", "most_sizes", "plain_count", "moved", "many_in_row", "is_form", "over_one", "bottom_of", "quotient", "place_of", "tells_integers"] : List Str) ++ (["shortest", "told_at", "is_told", "quotient_is", "stays_at_most", "TWO", "picture_told", "shape_told", "lies_in", "placed_shown", "counts_shown", "at_most_shown"] : List Str) ++ (["accepts", "_law_purse", "_law_draw", "_law_asked", "_law_lowest", "_law_sixths", "_law_form_of", "_law_told", "_law_period", "_law_starts_well", "_law_start_holds", "_law_holds"] : List Str) ++ (["_law_paper", "_law_bent_paper", "_law_rows", "_law_pair", "_law_promise", "_law_bent", "_law_right"] : List Str))
theorem run (w : World) : HandSHeadRun.RunEq R (PySem.W.view R.prog [125]) hk ob 14000 nms w := by
  intro os
  kernel_rfl
end HK67

set_option Elab.async false
set_option linter.all false
set_option maxRecDepth 100000
set_option maxHeartbeats 4000000
namespace Ev
open PySem PySem.Spec PyProof.Rows L2

/-! ### values as trees; what may change stands at a number of the store -/
inductive D where
  | non | bl (b : Bool) | int (i : Int) | str (x : Str) | tup (xs : List D) | rol (xs : List D) | obj (n : Nat)

mutual
def D.eqb : D → D → Bool
  | .non, .non => true
  | .bl a, .bl b => a == b
  | .int a, .int b => a == b
  | .str a, .str b => decide (a = b)
  | .tup a, .tup b => D.eqbs a b
  | .rol a, .rol b => D.eqbs a b
  | .obj a, .obj b => a == b
  | _, _ => false
def D.eqbs : List D → List D → Bool
  | [], [] => true
  | a :: as, b :: bs => D.eqb a b && D.eqbs as bs
  | _, _ => false
end
mutual
theorem D.eqb_eq : ∀ a b : D, D.eqb a b = true ↔ a = b
  | .non, b => by cases b <;> simp [D.eqb]
  | .bl x, b => by cases b <;> simp [D.eqb]
  | .int x, b => by cases b <;> simp [D.eqb]
  | .str x, b => by cases b <;> simp [D.eqb]
  | .obj x, b => by cases b <;> simp [D.eqb]
  | .tup xs, b => by
    cases b with
    | tup ys => simp [D.eqb, D.eqbs_eq xs ys]
    | _ => simp [D.eqb]
  | .rol xs, b => by
    cases b with
    | rol ys => simp [D.eqb, D.eqbs_eq xs ys]
    | _ => simp [D.eqb]
theorem D.eqbs_eq : ∀ a b : List D, D.eqbs a b = true ↔ a = b
  | [], b => by cases b <;> simp [D.eqbs]
  | a :: as, b => by
    cases b with
    | nil => simp [D.eqbs]
    | cons y ys => simp [D.eqbs, D.eqb_eq a y, D.eqbs_eq as ys]
end
instance : DecidableEq D := fun a b => if h : D.eqb a b = true then isTrue ((D.eqb_eq a b).mp h) else isFalse fun e => h ((D.eqb_eq a b).mpr e)

/-- what stands at a number: a list -/
inductive O where
  | lst (xs : List D)
  deriving DecidableEq
abbrev Hh := List O
abbrev En := List (Option D)

inductive R (α : Type) where
  | ok (a : α) (h : Hh)
  | bad
def R.bind {α β : Type} (r : R α) (f : α → Hh → R β) : R β := match r with
  | .ok a h => f a h
  | .bad => .bad
@[simp] theorem R.bind_ok {α β : Type} (a : α) (h : Hh) (f : α → Hh → R β) : (R.ok a h).bind f = f a h := (rfl)
@[simp] theorem R.bind_bad {α β : Type} (f : α → Hh → R β) : (R.bad : R α).bind f = .bad := (rfl)
theorem R.bind_eq_ok {α β : Type} {r : R α} {f : α → Hh → R β} {b : β} {h' : Hh} (e : r.bind f = .ok b h') : ∃ a h, r = .ok a h ∧ f a h = .ok b h' := by
  cases r with
  | ok a h => exact ⟨a, h, rfl, e⟩
  | bad => cases e

inductive Op | add | sub | mul | fdiv | mod | pow
inductive Cm | eq | ne | lt | le | gt | ge | is | isn | inn | nin
inductive Bi | len | abs | min | max | sum | all | any | int | list | tuple | isi (n : String) | divmod | repr | str | lzip

mutual
inductive E where
  | var (i : Nat)
  | lit (d : D)
  | bin (o : Op) (a b : E)
  | neg (a : E)
  | not (a : E)
  | cmp (o : Cm) (a b : E)
  | cmp2 (o o2 : Cm) (a b c : E)
  | and (a b : E)
  | or (a b : E)
  | ife (c a b : E)
  | tup (es : Es)
  | lst (es : Es)
  | idx (a b : E)
  | slc (a : E) (lo hi : Eo)
  | rev (a : E)
  | call (f : Nat) (es : Es)
  | callk (f : Nat) (pm : List Nat) (es : Es)
  | bi (b : Bi) (es : Es)
  | comp (c : Cp)
  | bq (b : Bi) (c : Cp)
inductive Cp where
  | mk (elt : E) (tg : T) (it : It) (ifs : Eo) (own : List Nat)
inductive Es where
  | nil | cons (e : E) (r : Es)
inductive Eo where
  | no | so (e : E)
inductive It where
  | seq (e : E) | rng (es : Es) | enm (e : E) | zip (a b : E)
inductive T where
  | nm (i : Nat) | tp (ts : Ts) | sub (o i : E)
inductive Ts where
  | nil | cons (t : T) (r : Ts)
end
mutual
inductive S where
  | asg (t : T) (e : E)
  | par (is : List Nat) (es : Es)
  | aug (o : Op) (i : Nat) (e : E)
  | augs (o : Op) (a i e : E)
  | app (a e : E)
  | ret (e : E)
  | retn
  | ite (c : E) (a b : Ss)
  | whl (c : E) (b : Ss)
  | loop (t : T) (it : It) (b : Ss)
  | brk
  | pass
  | nev
inductive Ss where
  | nil | cons (s : S) (r : Ss)
end

/-! ### operators on values -/
def lineD : Nat := sizeLine
def binop : Op → D → D → Hh → R D
  | .add, .int i, .int j, h => .ok (.int (i + j)) h
  | .add, .str x, .str y, h => if x.length + y.length ≤ sizeLine then .ok (.str (x ++ y)) h else .bad
  | .add, .tup xs, .tup ys, h => if xs.length + ys.length ≤ sizeLine then .ok (.tup (xs ++ ys)) h else .bad
  | .add, .obj n, .obj m, h => match h[n]?, h[m]? with
    | some (.lst xs), some (.lst ys) => if xs.length + ys.length ≤ sizeLine then .ok (.obj h.length) (h ++ [.lst (xs ++ ys)]) else .bad
    | _, _ => .bad
  | .sub, .int i, .int j, h => .ok (.int (i - j)) h
  | .mul, .int i, .int j, h => if ((-(2 ^ 64) < i ∧ i < 2 ^ 64) ∨ (-(2 ^ 64) < j ∧ j < 2 ^ 64)) ∨ i.natAbs.log2 + j.natAbs.log2 < 1000000 then .ok (.int (i * j)) h else .bad
  | .mul, .obj n, .int k, h => match h[n]? with
    | some (.lst xs) => if -(2 ^ 63) ≤ k ∧ k < 2 ^ 63 ∧ xs.length * k.toNat ≤ sizeLine then .ok (.obj h.length) (h ++ [.lst (List.replicate k.toNat xs).flatten]) else .bad
    | _ => .bad
  | .fdiv, .int i, .int j, h => if 0 < j ∧ (j < 1073741824 ∨ j.natAbs.log2 < 9000) then .ok (.int (i / j)) h else .bad
  | .mod, .int i, .int j, h => if 0 < j then .ok (.int (i % j)) h else .bad
  | .pow, .int i, .int j, h => if 0 ≤ j ∧ j ≤ 1000000 ∧ i.natAbs < 2 ^ 64 then .ok (.int (i ^ j.toNat)) h else .bad
  | _, _, _, _ => .bad

mutual
/-- the plain data that a value is (lists read off the store), k levels of the store deep -/
def toP (h : Hh) : Nat → D → Option PyData
  | _, .non => some .none
  | _, .bl b => some (.bool b)
  | _, .int i => some (.int i)
  | _, .str x => some (.str x)
  | k, .tup xs => (toPs h k xs).map .tuple
  | k, .rol xs => (toPs h k xs).map .list
  | 0, .obj _ => none
  | k + 1, .obj n => match h[n]? with
    | some (.lst xs) => (toPs h k xs).map .list
    | none => none
def toPs (h : Hh) : Nat → List D → Option (List PyData)
  | _, [] => some []
  | k, d :: ds => match toP h k d, toPs h k ds with
    | some p, some ps => some (p :: ps)
    | _, _ => none
end
end Ev

set_option Elab.async false
set_option linter.all false
set_option maxRecDepth 100000
set_option maxHeartbeats 4000000
namespace Ev
open PySem PySem.Spec PyProof.Rows L2

def b01 (o : Option Bool) (h : Hh) : R D := match o with
  | some b => .ok (.bl b) h
  | none => .bad
/-- == as Python has it, where both sides are plain data -/
def eqD (h : Hh) : D → D → Option Bool
  | .str a, .str b => some (decide (a = b))
  | x, y => match toP h 8 x, toP h 8 y with
    | some p, some q => if SeqAt.shaped p = true ∧ SeqAt.shaped q = true then some (PyData.eqv p q) else none
    | _, _ => none
/-- x in a list of plain data -/
def inD (h : Hh) (x y : D) : Option Bool := match y with
  | .obj n => match toP h 8 x, toP h 8 (.obj n) with
    | some p, some (.list qs) => if SeqAt.shaped p = true ∧ SeqAt.shaped (.list qs) = true then some (qs.any fun z => PyData.eqv z p) else none
    | _, _ => none
  | _ => none
def cmpop (h : Hh) : Cm → D → D → Option Bool
  | .eq, x, y => eqD h x y
  | .ne, x, y => (eqD h x y).map (!·)
  | .lt, .int i, .int j => some (decide (i < j))
  | .le, .int i, .int j => some (decide (i ≤ j))
  | .gt, .int i, .int j => some (decide (j < i))
  | .ge, .int i, .int j => some (decide (j ≤ i))
  | .is, x, .non => some (decide (x = .non))
  | .isn, x, .non => some (!decide (x = .non))
  | .is, .bl a, .bl b => some (decide (a = b))
  | .isn, .bl a, .bl b => some (!decide (a = b))
  | .inn, x, y => inD h x y
  | .nin, x, y => (inD h x y).map (!·)
  | _, _, _ => none

/-- the items of a list or tuple -/
def itemsOf (h : Hh) : D → Option (List D)
  | .tup xs => some xs
  | .rol xs => some xs
  | .obj n => match h[n]? with
    | some (.lst xs) => some xs
    | none => none
  | _ => none
def toInts : List D → Option (List Int)
  | [] => some []
  | .int i :: r => (toInts r).map (i :: ·)
  | _ => none
def toBools : List D → Option (List Bool)
  | [] => some []
  | .bl i :: r => (toBools r).map (i :: ·)
  | _ => none
def maxL : List Int → Int
  | [] => 0
  | [a] => a
  | a :: r => max a (maxL r)
def minL : List Int → Int
  | [] => 0
  | [a] => a
  | a :: r => min a (minL r)
/-- a built-in over the items of a list -/
def biL : Bi → List D → Hh → R D
  | .len, xs, h => .ok (.int xs.length) h
  | .sum, xs, h => match toInts xs with
    | some is => .ok (.int is.sum) h
    | none => .bad
  | .max, xs, h => match toInts xs with
    | some (i :: is) => .ok (.int (maxL (i :: is))) h
    | _ => .bad
  | .min, xs, h => match toInts xs with
    | some (i :: is) => .ok (.int (minL (i :: is))) h
    | _ => .bad
  | .all, xs, h => match toBools xs with
    | some bs => .ok (.bl (bs.all id)) h
    | none => .bad
  | .any, xs, h => match toBools xs with
    | some bs => .ok (.bl (bs.any id)) h
    | none => .bad
  | .tuple, xs, h => .ok (.tup xs) h
  | .list, xs, h => .ok (.obj h.length) (h ++ [.lst xs])
  | _, _, _ => .bad
def tyName (h : Hh) : D → Option String
  | .non => some "NoneType"
  | .bl _ => some "bool"
  | .int _ => some "int"
  | .str _ => some "str"
  | .tup _ => some "tuple"
  | .rol _ => some "list"
  | .obj n => match h[n]? with
    | some (.lst _) => some "list"
    | none => none
def isiT (t n : String) : Option Bool :=
  if n = "int" then some (t == "int" || t == "bool") else if n = "bool" ∨ n = "str" ∨ n = "tuple" ∨ n = "list" then some (t == n) else none
abbrev Deps := List (Nat × List D)
def depOk (h : Hh) : Deps → Bool
  | [] => true
  | (n, xs) :: r => decide (h[n]? = some (.lst xs)) && depOk h r
/-- what a list or tuple yields, and what must stay as it is meanwhile -/
def seqD (h : Hh) : D → Option (List D × Deps)
  | .tup xs => some (xs, [])
  | .rol xs => some (xs, [])
  | .obj n => match h[n]? with
    | some (.lst xs) => some (xs, [(n, xs)])
    | none => none
  | _ => none
def enumD (k : Nat) : List D → List D
  | [] => []
  | x :: r => .tup [.int k, x] :: enumD (k + 1) r
def zipD : List D → List D → List D
  | x :: r, y :: s => .tup [x, y] :: zipD r s
  | _, _ => []
def zipop (h : Hh) : D → D → Option (List D × Deps)
  | .tup xs, .tup ys => some (zipD xs ys, [])
  | .obj n, .obj m => match seqD h (.obj n), seqD h (.obj m) with
    | some p, some q => some (zipD p.1 q.1, p.2 ++ q.2)
    | _, _ => none
  | _, _ => none
def isRefD : D → Bool
  | .tup _ => true
  | .rol _ => true
  | .obj _ => true
  | _ => false
def biop : Bi → List D → Hh → R D
  | .len, [.str x], h => if x.length ≤ sizeLine then .ok (.int x.length) h else .bad
  | .len, [.tup xs], h => .ok (.int xs.length) h
  | .abs, [.int i], h => .ok (.int (if i < 0 then -i else i)) h
  | .max, [.int i, .int j], h => .ok (.int (if j > i then j else i)) h
  | .min, [.int i, .int j], h => .ok (.int (if j < i then j else i)) h
  | .int, [.int i], h => .ok (.int i) h
  | .int, [.bl b], h => .ok (.int (if b then 1 else 0)) h
  | .tuple, [.tup xs], h => .ok (.tup xs) h
  | .list, [.tup xs], h => .ok (.obj h.length) (h ++ [.lst xs])
  | .isi n, [x], h => match tyName h x with
    | some t => b01 (isiT t n) h
    | none => .bad
  | .divmod, [.int i, .int j], h => if 0 < j ∧ j < 1073741824 then .ok (.tup [.int (i / j), .int (i % j)]) h else .bad
  | .repr, [x], h => match toP h 8 x with
    | some p => if isRefD x && p.showable && !p.hasDict && decide (p.depth ≤ 60) && decide (p.shown.length ≤ sizeLine) then .ok (.str p.shown) h else .bad
    | none => .bad
  | .lzip, [.obj n, .obj m], h => match zipop h (.obj n) (.obj m) with
    | some p => if p.1.length ≤ sizeLine then .ok (.obj h.length) (h ++ [.lst p.1]) else .bad
    | none => .bad
  | .str, [.int i], h => if i.natAbs.log2 < 1920 then .ok (.str (toString i)) h else .bad
  | b, [.rol xs], h => biL b xs h
  | b, [.obj n], h => match h[n]? with
    | some (.lst xs) => biL b xs h
    | none => .bad
  | _, _, _ => .bad

def cutD (xs : List D) (lo hi : Option Int) : List D := (xs.drop (HT.sIx xs.length 0 lo)).take (HT.sIx xs.length xs.length hi - HT.sIx xs.length 0 lo)
def ixop (h : Hh) (x y : D) : Option D := match y with
  | .int i => (itemsOf h x).bind fun xs => atI xs i
  | _ => none
def slop (h : Hh) (x : D) (lo hi : Option Int) : R D := match x with
  | .tup xs => .ok (.tup (cutD xs lo hi)) h
  | .rol xs => .ok (.obj h.length) (h ++ [.lst (cutD xs lo hi)])
  | .obj n => match h[n]? with
    | some (.lst xs) => .ok (.obj h.length) (h ++ [.lst (cutD xs lo hi)])
    | none => .bad
  | _ => .bad
def revop (h : Hh) (x : D) : R D := match x with
  | .tup xs => .ok (.tup xs.reverse) h
  | .obj n => match h[n]? with
    | some (.lst xs) => .ok (.obj h.length) (h ++ [.lst xs.reverse])
    | _ => .bad
  | _ => .bad
/-- a list's item stored -/
def setop (h : Hh) (x y v : D) : R Unit := match x, y with
  | .obj n, .int i => match h[n]? with
    | some (.lst xs) => match ixN xs.length i with
      | some j => .ok () (h.set n (.lst (xs.set j v)))
      | none => .bad
    | _ => .bad
  | _, _ => .bad

/-- a op= b, ints -/
def augop : Op → D → D → Hh → R D
  | .add, .int i, .int j, h => .ok (.int (i + j)) h
  | .sub, .int i, .int j, h => .ok (.int (i - j)) h
  | _, _, _, _ => .bad
/-- a list's item, a list that is written -/
def getop (h : Hh) (x y : D) : R D := match x with
  | .obj n => (match ixop h (.obj n) y with
    | some d => .ok d h
    | none => .bad)
  | _ => .bad
/-- an item behind a list -/
def appop (x y : D) (h : Hh) : R Unit := match x with
  | .obj n => (match h[n]? with
    | some (.lst xs) => if xs.length < sizeLine then .ok () (h.set n (.lst (xs ++ [y]))) else .bad
    | _ => .bad)
  | _ => .bad

def rangeD (lo c : Int) (n : Nat) : List D := (List.range n).map fun k => .int (lo + (k : Nat) * c)
def rngop : List D → Option (List D)
  | [.int j] => if -(2 ^ 62) ≤ j ∧ j < 2 ^ 62 then some (rangeD 0 1 j.toNat) else none
  | [.int i, .int j] => if -(2 ^ 62) ≤ i ∧ i < 2 ^ 62 ∧ -(2 ^ 62) ≤ j ∧ j < 2 ^ 62 then some (rangeD i 1 (j - i).toNat) else none
  | [.int i, .int j, .int c] => if 0 < c ∧ c < 1073741824 ∧ Builtin.Range.small i j c = true then some (rangeD i c (Builtin.Range.rangeSize i j c).toNat) else none
  | _ => none

inductive Fl where
  | nx (σ : En) | rt (d : D) | bk (σ : En) | ct (σ : En)

/-- a loop over items -/
def loopD (deps : Deps) (f : D → En → Hh → R Fl) : List D → En → Hh → R Fl
  | [], σ, h => if depOk h deps then .ok (.nx σ) h else .bad
  | x :: xs, σ, h => if depOk h deps then match f x σ h with
      | .ok (.nx σ') h' => loopD deps f xs σ' h'
      | .ok (.ct σ') h' => loopD deps f xs σ' h'
      | .ok (.bk σ') h' => .ok (.nx σ') h'
      | .ok (.rt d) h' => .ok (.rt d) h'
      | .bad => .bad
    else .bad
/-- a comprehension's turns: what each gives, or nothing -/
def compD (deps : Deps) (f : D → Hh → R (Option D)) : List D → List D → Hh → R (List D)
  | [], acc, h => if depOk h deps then .ok acc h else .bad
  | x :: xs, acc, h => if depOk h deps then match f x h with
      | .ok (some y) h' => compD deps f xs (acc ++ [y]) h'
      | .ok none h' => compD deps f xs acc h'
      | .bad => .bad
    else .bad
/-- a while, at most w turns -/
def whileD (c : En → Hh → R D) (f : En → Hh → R Fl) : Nat → En → Hh → R Fl
  | 0, _, _ => .bad
  | w + 1, σ, h => match c σ h with
    | .ok (.bl true) h1 => (match f σ h1 with
      | .ok (.nx σ') h' => whileD c f w σ' h'
      | .ok (.ct σ') h' => whileD c f w σ' h'
      | .ok (.bk σ') h' => .ok (.nx σ') h'
      | .ok (.rt d) h' => .ok (.rt d) h'
      | .bad => .bad)
    | .ok (.bl false) h1 => .ok (.nx σ) h1
    | _ => .bad

def getV (σ : En) (i : Nat) (h : Hh) : R D := match σ[i]? with
  | some (some d) => .ok d h
  | _ => .bad
def wipeE (σ : En) : List Nat → En
  | [] => σ
  | v :: vs => (wipeE σ vs).set v none
abbrev CF := Nat → List D → Hh → R D

mutual
def evE (cf : CF) : E → En → Hh → R D
  | .var i, σ, h => getV σ i h
  | .lit d, _, h => .ok d h
  | .bin o a b, σ, h => (evE cf a σ h).bind fun x h1 => (evE cf b σ h1).bind fun y h2 => binop o x y h2
  | .neg a, σ, h => (evE cf a σ h).bind fun x h1 => match x with
    | .int i => .ok (.int (-i)) h1
    | _ => .bad
  | .not a, σ, h => (evE cf a σ h).bind fun x h1 => match x with
    | .bl b => .ok (.bl (!b)) h1
    | _ => .bad
  | .cmp o a b, σ, h => (evE cf a σ h).bind fun x h1 => (evE cf b σ h1).bind fun y h2 => b01 (cmpop h2 o x y) h2
  | .cmp2 o o2 a b c, σ, h => (evE cf a σ h).bind fun x h1 => (evE cf b σ h1).bind fun y h2 => match cmpop h2 o x y with
    | some true => (evE cf c σ h2).bind fun z h3 => b01 (cmpop h3 o2 y z) h3
    | some false => .ok (.bl false) h2
    | none => .bad
  | .and a b, σ, h => (evE cf a σ h).bind fun x h1 => match x with
    | .bl true => evE cf b σ h1
    | .bl false => .ok (.bl false) h1
    | _ => .bad
  | .or a b, σ, h => (evE cf a σ h).bind fun x h1 => match x with
    | .bl true => .ok (.bl true) h1
    | .bl false => evE cf b σ h1
    | _ => .bad
  | .ife c a b, σ, h => (evE cf c σ h).bind fun x h1 => match x with
    | .bl true => evE cf a σ h1
    | .bl false => evE cf b σ h1
    | _ => .bad
  | .tup es, σ, h => (evEs cf es σ h).bind fun xs h1 => if xs.length ≤ sizeLine then .ok (.tup xs) h1 else .bad
  | .lst es, σ, h => (evEs cf es σ h).bind fun xs h1 => if xs.length ≤ sizeLine then .ok (.obj h1.length) (h1 ++ [.lst xs]) else .bad
  | .idx a b, σ, h => (evE cf a σ h).bind fun x h1 => (evE cf b σ h1).bind fun y h2 => match ixop h2 x y with
    | some d => .ok d h2
    | none => .bad
  | .slc a lo hi, σ, h => (evE cf a σ h).bind fun x h1 => (evEo cf lo σ h1).bind fun y h2 => (evEo cf hi σ h2).bind fun z h3 => slop h3 x y z
  | .rev a, σ, h => (evE cf a σ h).bind fun x h1 => revop h1 x
  | .call f es, σ, h => (evEs cf es σ h).bind fun xs h1 => cf f xs h1
  | .callk f pm es, σ, h => (evEs cf es σ h).bind fun xs h1 => cf f (pm.filterMap fun i => xs[i]?) h1
  | .bi b es, σ, h => (evEs cf es σ h).bind fun xs h1 => biop b xs h1
  | .comp c, σ, h => (evC cf c σ h).bind fun xs h1 => .ok (.obj h1.length) (h1 ++ [.lst xs])
  | .bq b c, σ, h => (evC cf c σ h).bind fun xs h1 => biL b xs h1
def evC (cf : CF) : Cp → En → Hh → R (List D)
  | .mk elt tg it ifs own, σ, h => (evI cf it σ h).bind fun p h1 => if p.1.length ≤ sizeLine then compD p.2 (fun x h2 => (asT cf tg x (wipeE σ own) h2).bind fun σ1 h3 => (evT cf ifs σ1 h3).bind fun b h4 =>
    if b then (evE cf elt σ1 h4).bind fun y h5 => .ok (some y) h5 else .ok none h4) p.1 [] h1 else .bad
def evT (cf : CF) : Eo → En → Hh → R Bool
  | .no, _, h => .ok true h
  | .so c, σ, h => (evE cf c σ h).bind fun x h1 => match x with
    | .bl b => .ok b h1
    | _ => .bad
def evEs (cf : CF) : Es → En → Hh → R (List D)
  | .nil, _, h => .ok [] h
  | .cons e r, σ, h => (evE cf e σ h).bind fun x h1 => (evEs cf r σ h1).bind fun xs h2 => .ok (x :: xs) h2
def evEo (cf : CF) : Eo → En → Hh → R (Option Int)
  | .no, _, h => .ok none h
  | .so e, σ, h => (evE cf e σ h).bind fun x h1 => match x with
    | .int i => .ok (some i) h1
    | _ => .bad
def evI (cf : CF) : It → En → Hh → R (List D × Deps)
  | .seq e, σ, h => (evE cf e σ h).bind fun x h1 => match seqD h1 x with
    | some p => .ok p h1
    | none => .bad
  | .rng es, σ, h => (evEs cf es σ h).bind fun xs h1 => match rngop xs with
    | some p => .ok (p, []) h1
    | none => .bad
  | .enm e, σ, h => (evE cf e σ h).bind fun x h1 => match seqD h1 x with
    | some p => .ok (enumD 0 p.1, p.2) h1
    | none => .bad
  | .zip a b, σ, h => (evE cf a σ h).bind fun x h1 => (evE cf b σ h1).bind fun y h2 => match zipop h2 x y with
    | some p => .ok p h2
    | none => .bad
def asT (cf : CF) : T → D → En → Hh → R En
  | .nm i, v, σ, h => .ok (σ.set i (some v)) h
  | .tp ts, v, σ, h => match itemsOf h v with
    | some xs => asTs cf ts xs σ h
    | none => .bad
  | .sub o i, v, σ, h => (evE cf o σ h).bind fun x h1 => (evE cf i σ h1).bind fun y h2 => (setop h2 x y v).bind fun _ h3 => .ok σ h3
def asTs (cf : CF) : Ts → List D → En → Hh → R En
  | .nil, [], σ, h => .ok σ h
  | .cons t r, x :: xs, σ, h => (asT cf t x σ h).bind fun σ1 h1 => asTs cf r xs σ1 h1
  | _, _, _, _ => .bad
end

def setAll (σ : En) : List Nat → List D → En
  | i :: is, d :: ds => setAll (σ.set i (some d)) is ds
  | _, _ => σ
mutual
def exS (cf : CF) (w : Nat) : S → En → Hh → R Fl
  | .asg t e, σ, h => (evE cf e σ h).bind fun x h1 => (asT cf t x σ h1).bind fun σ1 h2 => .ok (.nx σ1) h2
  | .par is es, σ, h => (evEs cf es σ h).bind fun xs h1 => if xs.length = is.length then .ok (.nx (setAll σ is xs)) h1 else .bad
  | .aug o i e, σ, h => (getV σ i h).bind fun x h0 => (evE cf e σ h0).bind fun y h1 => (augop o x y h1).bind fun z h2 => .ok (.nx (σ.set i (some z))) h2
  | .augs o a i e, σ, h => (evE cf a σ h).bind fun x h1 => (evE cf i σ h1).bind fun y h2 => (getop h2 x y).bind fun v h3 => (evE cf e σ h3).bind fun u h4 => (augop o v u h4).bind fun z h5 => (setop h5 x y z).bind fun _ h6 => .ok (.nx σ) h6
  | .app a e, σ, h => (evE cf a σ h).bind fun x h1 => (evE cf e σ h1).bind fun y h2 => (appop x y h2).bind fun _ h3 => .ok (.nx σ) h3
  | .ret e, σ, h => (evE cf e σ h).bind fun x h1 => .ok (.rt x) h1
  | .retn, _, h => .ok (.rt .non) h
  | .ite c a b, σ, h => (evE cf c σ h).bind fun x h1 => match x with
    | .bl true => exSs cf w a σ h1
    | .bl false => exSs cf w b σ h1
    | _ => .bad
  | .whl c b, σ, h => whileD (fun σ h => evE cf c σ h) (fun σ h => exSs cf w b σ h) w σ h
  | .loop t it b, σ, h => (evI cf it σ h).bind fun p h1 => loopD p.2 (fun x σ h => (asT cf t x σ h).bind fun σ1 h2 => exSs cf w b σ1 h2) p.1 σ h1
  | .brk, σ, h => .ok (.bk σ) h
  | .pass, σ, h => .ok (.nx σ) h
  | .nev, _, _ => .bad
def exSs (cf : CF) (w : Nat) : Ss → En → Hh → R Fl
  | .nil, σ, h => .ok (.nx σ) h
  | .cons s r, σ, h => (exS cf w s σ h).bind fun f h1 => match f with
    | .nx σ1 => exSs cf w r σ1 h1
    | f => .ok f h1
end

mutual
def D.lt (n : Nat) : D → Bool
  | .obj m => decide (m < n)
  | .tup xs => D.lts n xs
  | .rol xs => D.lts n xs
  | _ => true
def D.lts (n : Nat) : List D → Bool
  | [] => true
  | x :: xs => D.lt n x && D.lts n xs
end
/-- a def: how many parameters, how many names, its body -/
structure Fd where
  np : Nat
  nl : Nat
  body : Ss
/-- what was made on the way and is not handed back is forgotten, where all that stood before is as it was -/
def fin (h : Hh) (d : D) (h' : Hh) : R D := if D.lt h.length d = true ∧ h'.take h.length = h then .ok d h else .ok d h'
def callF (P : Nat → Option Fd) (w : Nat) : Nat → CF
  | 0, _, _, _ => .bad
  | k + 1, f, ds, h => match P f with
    | some fd => if ds.length = fd.np then (match exSs (callF P w k) w fd.body (ds.map some ++ List.replicate (fd.nl - fd.np) none) h with
        | .ok (.rt d) h' => fin h d h'
        | .ok (.nx _) h' => fin h .non h'
        | _ => .bad) else .bad
    | none => .bad
end Ev

set_option Elab.async false
set_option linter.all false
set_option maxRecDepth 100000
set_option maxHeartbeats 4000000
namespace Ev
open PySem PySem.Spec PyProof.Rows L2

/-! ### a tree and the value that bears it -/
/-- a list that is read and never written here -/
def RoL (K : PySem.W.Frag) (H : Hp) (a : Addr) (vs : List V) : Prop := (∃ o, H a = some (.frz o (.lst vs))) ∨
    ∃ (o : Obj) (its : Array Value) (n : Nat), K.lookup a = some o ∧ o.cls = .type "list" ∧ o.dict = none ∧ o.data = .seq its n ∧ its.size ≤ sizeLine ∧ Vals vs its.toList
mutual
def Rep (K : PySem.W.Frag) (ρ : List Addr) (H : Hp) : D → V → Prop
  | .non, v => v = .non
  | .bl b, v => v = .bl b
  | .int i, v => v = .int i
  | .str x, v => v = .str x
  | .tup ds, v => ∃ a vs, v = .ref a ∧ SqT K H a vs ∧ Reps K ρ H ds vs
  | .rol ds, v => ∃ a vs, v = .ref a ∧ RoL K H a vs ∧ Reps K ρ H ds vs
  | .obj n, v => ∃ a, ρ[n]? = some a ∧ v = .ref a
def Reps (K : PySem.W.Frag) (ρ : List Addr) (H : Hp) : List D → List V → Prop
  | [], vs => vs = []
  | d :: ds, vs => ∃ v r, vs = v :: r ∧ Rep K ρ H d v ∧ Reps K ρ H ds r
end
def ORel (K : PySem.W.Frag) (ρ : List Addr) (H : Hp) (a : Addr) : O → Prop
  | .lst ds => ∃ vs, H a = some (.lst vs) ∧ Reps K ρ H ds vs
structure HRel (K : PySem.W.Frag) (ρ : List Addr) (h : Hh) (H : Hp) : Prop where
  len : ρ.length = h.length
  at_ : ∀ (n : Nat) (a : Addr) (o : O), ρ[n]? = some a → h[n]? = some o → ORel K ρ H a o
  inj : ∀ (n m : Nat) (a : Addr), ρ[n]? = some a → ρ[m]? = some a → n = m
structure Ext (H H' : Hp) : Prop where
  tup : ∀ a xs, Rd H a (.tup xs) → Rd H' a (.tup xs)
  frz : ∀ a o u, H a = some (.frz o u) → H' a = some (.frz o u)
structure Stp (ρ : List Addr) (H : Hp) (ρ' : List Addr) (H' : Hp) : Prop where
  pre : ρ <+: ρ'
  ext : Ext H H'
  fr : ∀ a o, H a = some o → a ∉ ρ → H' a = some o
  nw : ∀ a ∈ ρ', a ∈ ρ ∨ H a = none
def ERel (K : PySem.W.Frag) (ρ : List Addr) (H : Hp) (env : En) (σ : L2.St) : Prop :=
  env.length = σ.length ∧ ∀ (i : Nat) (d : D), env[i]? = some (some d) → ∃ v : V, σ[i]? = some (some v) ∧ Rep K ρ H d v

section
variable {K : PySem.W.Frag} {ρ ρ' ρ'' : List Addr} {H H' H'' : Hp} {h h' : Hh}
theorem Ext.refl : Ext H H := ⟨fun _ _ x => x, fun _ _ _ x => x⟩
theorem Ext.trans (a : Ext H H') (b : Ext H' H'') : Ext H H'' := ⟨fun _ _ x => b.tup _ _ (a.tup _ _ x), fun _ _ _ x => b.frz _ _ _ (a.frz _ _ _ x)⟩
theorem Stp.refl : Stp ρ H ρ H := ⟨List.prefix_refl _, .refl, fun _ _ e _ => e, fun _ e => .inl e⟩
theorem Stp.new_no (a : Stp ρ H ρ' H') {x : Addr} {o : HO} (e : H x = some o) (n : x ∉ ρ) : x ∉ ρ' := fun m => by
  rcases a.nw x m with q | q
  · exact n q
  · rw [e] at q; cases q
theorem Stp.trans (a : Stp ρ H ρ' H') (b : Stp ρ' H' ρ'' H'') : Stp ρ H ρ'' H'' := by
  refine ⟨a.pre.trans b.pre, a.ext.trans b.ext, fun x o e n => b.fr x o (a.fr x o e n) (a.new_no e n), fun x m => ?_⟩
  rcases b.nw x m with q | q
  · exact a.nw x q
  · by_cases hx : x ∈ ρ
    · exact .inl hx
    · cases e : H x with
      | none => exact .inr rfl
      | some o => rw [a.fr x o e hx] at q; cases q
theorem Ext.sqT (e : Ext H H') {a : Addr} {vs : List V} (x : SqT K H a vs) : SqT K H' a vs := by
  rcases x with x | x
  · exact .inl (e.tup _ _ x)
  · exact .inr x
theorem Ext.roL (e : Ext H H') {a : Addr} {vs : List V} (x : RoL K H a vs) : RoL K H' a vs := by
  rcases x with ⟨o, x⟩ | x
  · exact .inl ⟨o, e.frz _ _ _ x⟩
  · exact .inr x
theorem RoL.sqL {a : Addr} {vs : List V} (x : RoL K H a vs) : SqL K H a vs := by
  rcases x with ⟨o, x⟩ | x
  · exact .inl (.inr ⟨o, x⟩)
  · exact .inr x
theorem pre_get {n : Nat} {a : Addr} (p : ρ <+: ρ') (e : ρ[n]? = some a) : ρ'[n]? = some a := by
  obtain ⟨t, rfl⟩ := p
  rw [List.getElem?_append_left (List.getElem?_eq_some_iff.mp e).1]
  exact e
mutual
theorem Rep.mono (s : Stp ρ H ρ' H') : ∀ (d : D) {v : V}, Rep K ρ H d v → Rep K ρ' H' d v
  | .non, _, x => x
  | .bl _, _, x => x
  | .int _, _, x => x
  | .str _, _, x => x
  | .obj n, _, ⟨a, e, x⟩ => ⟨a, pre_get s.pre e, x⟩
  | .tup ds, _, ⟨a, vs, e, x, r⟩ => ⟨a, vs, e, s.ext.sqT x, Reps.mono s ds r⟩
  | .rol ds, _, ⟨a, vs, e, x, r⟩ => ⟨a, vs, e, s.ext.roL x, Reps.mono s ds r⟩
theorem Reps.mono (s : Stp ρ H ρ' H') : ∀ (ds : List D) {vs : List V}, Reps K ρ H ds vs → Reps K ρ' H' ds vs
  | [], _, x => x
  | d :: ds, _, ⟨v, r, e, x, y⟩ => ⟨v, r, e, Rep.mono s d x, Reps.mono s ds y⟩
end
theorem ERel.mono (s : Stp ρ H ρ' H') {env : En} {σ : L2.St} (e : ERel K ρ H env σ) : ERel K ρ' H' env σ :=
  ⟨e.1, fun i d x => let ⟨v, a, b⟩ := e.2 i d x; ⟨v, a, Rep.mono s d b⟩⟩
theorem Reps.length : ∀ {ds : List D} {vs : List V}, Reps K ρ H ds vs → ds.length = vs.length
  | [], _, x => by cases (show _ = [] from x); rfl
  | d :: ds, _, ⟨v, r, e, _, y⟩ => by subst e; simp [Reps.length y]
theorem Reps.get : ∀ {ds : List D} {vs : List V} {i : Nat} {d : D}, Reps K ρ H ds vs → ds[i]? = some d → ∃ v, vs[i]? = some v ∧ Rep K ρ H d v
  | [], _, _, _, _, q => by simp at q
  | d :: ds, _, 0, _, ⟨v, r, e, x, _⟩, q => by subst e; simp at q; subst q; exact ⟨v, rfl, x⟩
  | d :: ds, _, i + 1, _, ⟨v, r, e, _, y⟩, q => by
    subst e
    obtain ⟨u, a, b⟩ := Reps.get (i := i) y (by simpa using q)
    exact ⟨u, by simpa using a, b⟩
theorem Reps.append : ∀ {ds es : List D} {vs us : List V}, Reps K ρ H ds vs → Reps K ρ H es us → Reps K ρ H (ds ++ es) (vs ++ us)
  | [], _, _, _, x, y => by cases (show _ = [] from x); exact y
  | d :: ds, _, _, _, ⟨v, r, e, x, y⟩, z => by subst e; exact ⟨v, r ++ _, rfl, x, Reps.append y z⟩
theorem Reps.nil : Reps K ρ H [] [] := rfl
theorem Reps.cons {d : D} {ds : List D} {v : V} {vs : List V} (a : Rep K ρ H d v) (b : Reps K ρ H ds vs) : Reps K ρ H (d :: ds) (v :: vs) := ⟨v, vs, rfl, a, b⟩
theorem Reps.one {d : D} {v : V} (a : Rep K ρ H d v) : Reps K ρ H [d] [v] := .cons a .nil
theorem Reps.take : ∀ {ds : List D} {vs : List V} (n : Nat), Reps K ρ H ds vs → Reps K ρ H (ds.take n) (vs.take n)
  | _, _, 0, _ => by simp [Reps]
  | [], _, n + 1, x => by cases (show _ = [] from x); simp [Reps]
  | d :: ds, _, n + 1, ⟨v, r, e, x, y⟩ => by subst e; exact ⟨v, _, rfl, x, Reps.take n y⟩
theorem Reps.drop : ∀ {ds : List D} {vs : List V} (n : Nat), Reps K ρ H ds vs → Reps K ρ H (ds.drop n) (vs.drop n)
  | _, _, 0, x => x
  | [], _, n + 1, x => by cases (show _ = [] from x); simp [Reps]
  | d :: ds, _, n + 1, ⟨v, r, e, x, y⟩ => by subst e; exact Reps.drop n y
theorem Reps.set {d : D} {v : V} (q : Rep K ρ H d v) : ∀ {ds : List D} {vs : List V} (i : Nat), Reps K ρ H ds vs → Reps K ρ H (ds.set i d) (vs.set i v)
  | [], _, _, x => by cases (show _ = [] from x); simp [Reps]
  | e :: ds, _, 0, ⟨u, r, z, x, y⟩ => by subst z; exact ⟨v, r, rfl, q, y⟩
  | e :: ds, _, i + 1, ⟨u, r, z, x, y⟩ => by subst z; exact ⟨u, _, rfl, x, Reps.set q i y⟩
theorem Reps.reverse : ∀ {ds : List D} {vs : List V}, Reps K ρ H ds vs → Reps K ρ H ds.reverse vs.reverse
  | [], _, x => by cases (show _ = [] from x); simp [Reps]
  | d :: ds, _, ⟨v, r, e, x, y⟩ => by subst e; rw [List.reverse_cons, List.reverse_cons]; exact (Reps.reverse y).append (.one x)
theorem Reps.rep {ds : List D} {vs : List V} (x : Reps K ρ H ds vs) : ∀ n : Nat, Reps K ρ H (List.replicate n ds).flatten (List.replicate n vs).flatten
  | 0 => by simp [Reps]
  | n + 1 => by rw [List.replicate_succ, List.replicate_succ, List.flatten_cons, List.flatten_cons]; exact x.append (Reps.rep x n)
theorem Reps.inj_len {ds : List D} {vs us : List V} (a : Reps K ρ H ds vs) (b : Reps K ρ H ds us) : vs.length = us.length := a.length.symm.trans b.length

/-! ### steps of the store -/
theorem Ext.new {p : Addr} {u : HO} (n : H p = none) : Ext H (upd H p u) := by
  refine ⟨fun a xs x => ?_, fun a o u' x => ?_⟩
  · rcases x with x | ⟨o, x⟩
    · exact .inl (by rw [upd_ne (ne_of_none x n)]; exact x)
    · exact .inr ⟨o, by rw [upd_ne (ne_of_none x n)]; exact x⟩
  · rw [upd_ne (ne_of_none x n)]; exact x
theorem Ext.wrote {p : Addr} {xs ys : List V} (n : H p = some (.lst xs)) : Ext H (upd H p (.lst ys)) := by
  refine ⟨fun a zs x => ?_, fun a o u' x => ?_⟩
  · rcases x with x | ⟨o, x⟩
    · exact .inl (by rw [upd_ne (ne_of x n (by simp))]; exact x)
    · exact .inr ⟨o, by rw [upd_ne (ne_of x n (by simp))]; exact x⟩
  · rw [upd_ne (ne_of x n (by simp))]; exact x
theorem Stp.new {p : Addr} {u : HO} (n : H p = none) : Stp ρ H ρ (upd H p u) := ⟨List.prefix_refl _, .new n, fun a o e _ => by rw [upd_ne (ne_of_none e n)]; exact e, fun _ e => .inl e⟩
theorem ORel.mono (s : Stp ρ H ρ' H') {a : Addr} : ∀ {o : O}, (∀ xs, H a = some (.lst xs) → H' a = some (.lst xs)) → ORel K ρ H a o → ORel K ρ' H' a o
  | .lst ds, k, ⟨vs, e, r⟩ => ⟨vs, k _ e, Reps.mono s ds r⟩
/-- a thing that is not told of -/
theorem HRel.junk {p : Addr} {u : HO} (r : HRel K ρ h H) (n : H p = none) : HRel K ρ h (upd H p u) :=
  ⟨r.len, fun m a o e1 e2 => (r.at_ m a o e1 e2).mono (Stp.new n) fun xs e => by rw [upd_ne (ne_of_none e n)]; exact e, r.inj⟩
theorem get_push {α : Type} {l : List α} {x : α} {n : Nat} {y : α} (e : (l ++ [x])[n]? = some y) : (n < l.length ∧ l[n]? = some y) ∨ (n = l.length ∧ y = x) := by
  by_cases h : n < l.length
  · exact .inl ⟨h, by rwa [List.getElem?_append_left h] at e⟩
  · rw [List.getElem?_append_right (by omega)] at e
    obtain ⟨h1, h2⟩ := List.getElem?_eq_some_iff.mp e
    have : n - l.length = 0 := by simp at h1; omega
    refine .inr ⟨by omega, ?_⟩
    simp [this] at h2
    exact h2.symm
theorem Stp.push {p : Addr} {u : HO} (n : H p = none) : Stp ρ H (ρ ++ [p]) (upd H p u) := ⟨List.prefix_append _ _, .new n, fun a o e _ => by rw [upd_ne (ne_of_none e n)]; exact e, fun a e => by
  rcases List.mem_append.mp e with q | q
  · exact .inl q
  · have : a = p := by simpa using q
    exact .inr (this ▸ n)⟩
theorem HRel.there (r : HRel K ρ h H) {n : Nat} {a : Addr} (e : ρ[n]? = some a) : ∃ vs, H a = some (.lst vs) := by
  have hn : n < h.length := by rw [← r.len]; exact (List.getElem?_eq_some_iff.mp e).1
  have q := r.at_ n a h[n] e (by simp [hn])
  cases hq : h[n] with
  | lst xs =>
    rw [hq] at q
    obtain ⟨vs, e1, _⟩ := q
    exact ⟨vs, e1⟩
theorem HRel.notin (r : HRel K ρ h H) {p : Addr} (n : H p = none) : p ∉ ρ := fun m => by
  obtain ⟨i, e⟩ := List.getElem?_of_mem m
  obtain ⟨vs, e1⟩ := r.there e
  rw [n] at e1; cases e1
/-- a new list -/
theorem HRel.push {p : Addr} {ds : List D} {vs : List V} (r : HRel K ρ h H) (n : H p = none) (x : Reps K ρ H ds vs) : HRel K (ρ ++ [p]) (h ++ [.lst ds]) (upd H p (.lst vs)) := by
  have s : Stp ρ H (ρ ++ [p]) (upd H p (.lst vs)) := .push n
  have old : ∀ (m : Nat) (a : Addr), ρ[m]? = some a → a ≠ p := fun m a e1 => by
    obtain ⟨us, e⟩ := r.there e1
    exact ne_of_none e n
  refine ⟨by simp [r.len], fun m a o e1 e2 => ?_, fun m k a e1 e2 => ?_⟩
  · rcases get_push e1 with ⟨l1, e1⟩ | ⟨l1, e1⟩
    · rcases get_push e2 with ⟨_, e2⟩ | ⟨l2, _⟩
      · exact (r.at_ m a o e1 e2).mono s fun xs e => by rw [upd_ne (ne_of_none e n)]; exact e
      · rw [r.len] at l1; omega
    · rcases get_push e2 with ⟨l2, _⟩ | ⟨_, e2⟩
      · rw [r.len] at l1; omega
      · subst e1 e2; exact ⟨vs, upd_same, Reps.mono s ds x⟩
  · rcases get_push e1 with ⟨l1, e1⟩ | ⟨l1, e1⟩
    · rcases get_push e2 with ⟨l2, e2⟩ | ⟨l2, e2⟩
      · exact r.inj m k a e1 e2
      · exact absurd e2 (old m a e1)
    · rcases get_push e2 with ⟨l2, e2⟩ | ⟨l2, e2⟩
      · exact absurd e1 (old k a e2)
      · omega
theorem Stp.wrote {n : Nat} {p : Addr} {xs ys : List V} (e : ρ[n]? = some p) (q : H p = some (.lst xs)) : Stp ρ H ρ (upd H p (.lst ys)) :=
  ⟨List.prefix_refl _, .wrote q, fun a o h hn => by rw [upd_ne (fun z : a = p => hn (by rw [z]; exact List.mem_of_getElem? e))]; exact h, fun _ m => .inl m⟩
/-- a list written -/
theorem HRel.wrote {n : Nat} {p : Addr} {ds es : List D} {us : List V} (r : HRel K ρ h H) (e : ρ[n]? = some p) (e2 : h[n]? = some (.lst ds)) (x : Reps K ρ H es us) : HRel K ρ (h.set n (.lst es)) (upd H p (.lst us)) ∧ Stp ρ H ρ (upd H p (.lst us)) := by
  obtain ⟨vs, hp, _⟩ := (show ORel K ρ H p (.lst ds) from r.at_ n p _ e e2)
  have s : Stp ρ H ρ (upd H p (.lst us)) := .wrote e hp
  have hn : n < h.length := (List.getElem?_eq_some_iff.mp e2).1
  refine ⟨⟨by simp [r.len], fun m a o e3 e4 => ?_, r.inj⟩, s⟩
  by_cases hm : n = m
  · subst hm
    rw [e] at e3; cases e3
    rw [List.getElem?_set_self hn] at e4; cases e4
    exact ⟨us, upd_same, Reps.mono s es x⟩
  · rw [List.getElem?_set_ne hm] at e4
    have na : a ≠ p := fun z => hm (r.inj n m p e (z ▸ e3))
    exact (r.at_ m a o e3 e4).mono s fun xs e => by rw [upd_ne na]; exact e
theorem ERel.set {env : En} {σ : L2.St} (e : ERel K ρ H env σ) (i : Nat) {d : D} {v : V} (x : Rep K ρ H d v) : ERel K ρ H (env.set i (some d)) (σ.set i (some v)) := by
  refine ⟨by simp [e.1], fun j d' q => ?_⟩
  by_cases hj : i = j
  · subst hj
    have hl : i < env.length := by
      have := (List.getElem?_eq_some_iff.mp q).1
      simpa using this
    rw [List.getElem?_set_self hl] at q; cases q
    exact ⟨v, by rw [List.getElem?_set_self (by rw [← e.1]; exact hl)], x⟩
  · rw [List.getElem?_set_ne hj] at q
    obtain ⟨u, a, b⟩ := e.2 j d' q
    exact ⟨u, by rw [List.getElem?_set_ne hj]; exact a, b⟩
theorem ERel.unset {env : En} {σ : L2.St} (e : ERel K ρ H env σ) (i : Nat) (o : Option V) : ERel K ρ H (env.set i none) (σ.set i o) := by
  refine ⟨by simp [e.1], fun j d' q => ?_⟩
  by_cases hj : i = j
  · subst hj
    have hl : i < env.length := by
      have := (List.getElem?_eq_some_iff.mp q).1
      simpa using this
    rw [List.getElem?_set_self hl] at q; cases q
  · rw [List.getElem?_set_ne hj] at q
    obtain ⟨u, a, b⟩ := e.2 j d' q
    exact ⟨u, by rw [List.getElem?_set_ne hj]; exact a, b⟩
theorem ERel.wipe {env : En} {σ : L2.St} (e : ERel K ρ H env σ) : ∀ vs : List Nat, ERel K ρ H (wipeE env vs) (wipe σ vs)
  | [] => e
  | v :: vs => (ERel.wipe e vs).unset v none
theorem ORel.list {a : Addr} {ds : List D} (q : ORel K ρ H a (.lst ds)) : ∃ vs, SqL K H a vs ∧ Reps K ρ H ds vs := by
  obtain ⟨vs, a, b⟩ := q
  exact ⟨vs, .inl (.inl a), b⟩
end

/-! ### what a run asks -/
def Wd (K : PySem.W.Frag) {α : Type} (ρ : List Addr) (H : Hp) (r : R α) (P : α → Hh → List Addr → Hp → Prop) : Prop :=
  ∃ a h', r = .ok a h' ∧ ∀ ρ' H', Stp ρ H ρ' H' → HRel K ρ' h' H' → P a h' ρ' H'
section
variable {K : PySem.W.Frag} {ρ : List Addr} {H : Hp} {α β : Type}
theorem Wd.imp {r : R α} {P P' : α → Hh → List Addr → Hp → Prop} (w : Wd K ρ H r P) (f : ∀ a h' ρ' H', Stp ρ H ρ' H' → HRel K ρ' h' H' → P a h' ρ' H' → P' a h' ρ' H') : Wd K ρ H r P' := by
  obtain ⟨a, h', e, q⟩ := w
  exact ⟨a, h', e, fun ρ' H' s r => f a h' ρ' H' s r (q ρ' H' s r)⟩
theorem Wd.bind {r : R α} {f : α → Hh → R β} {P : β → Hh → List Addr → Hp → Prop} (w : Wd K ρ H (r.bind f) P) : Wd K ρ H r fun a h1 ρ1 H1 => Wd K ρ1 H1 (f a h1) P := by
  obtain ⟨b, h2, e, q⟩ := w
  obtain ⟨a, h1, e1, e2⟩ := R.bind_eq_ok e
  exact ⟨a, h1, e1, fun ρ1 H1 s1 r1 => ⟨b, h2, e2, fun ρ2 H2 s2 r2 => q ρ2 H2 (s1.trans s2) r2⟩⟩
theorem Wd.ok {a : α} {h : Hh} {P : α → Hh → List Addr → Hp → Prop} (w : Wd K ρ H (.ok a h) P) : ∀ ρ' H', Stp ρ H ρ' H' → HRel K ρ' h H' → P a h ρ' H' := by
  obtain ⟨a', h', e, q⟩ := w
  cases e
  exact q
theorem Wd.bad {P : α → Hh → List Addr → Hp → Prop} (w : Wd K ρ H (.bad : R α) P) : False := by
  obtain ⟨a', h', e, q⟩ := w
  cases e
end
/-- an expression's reading -/
def tE (K : PySem.W.Frag) (f : En → Hh → R D) : TE := fun σ H Q => ∃ ρ env h, HRel K ρ h H ∧ ERel K ρ H env σ ∧ Wd K ρ H (f env h) fun d _ ρ' H' => ∀ v, Rep K ρ' H' d v → Q v H'
def tEs (K : PySem.W.Frag) (f : En → Hh → R (List D)) : TA := fun σ H Q => ∃ ρ env h, HRel K ρ h H ∧ ERel K ρ H env σ ∧ Wd K ρ H (f env h) fun ds _ ρ' H' => ∀ vs, Reps K ρ' H' ds vs → Q vs H'
def tT (K : PySem.W.Frag) (f : En → Hh → R D) : TT := fun σ H Q => ∃ ρ env h, HRel K ρ h H ∧ ERel K ρ H env σ ∧ Wd K ρ H (f env h) fun d _ ρ' H' => ∃ b, d = .bl b ∧ Q b H'
end Ev

set_option Elab.async false
set_option linter.all false
set_option maxRecDepth 100000
set_option maxHeartbeats 4000000
namespace Ev
open PySem PySem.Spec PyProof.Rows L2

/-- what is wanted of a value -/
abbrev QP (K : PySem.W.Frag) (Q : VK) : D → Hh → List Addr → Hp → Prop := fun d _ ρ H => ∀ v, Rep K ρ H d v → Q v H
section
variable {K : PySem.W.Frag} {ρ : List Addr} {H : Hp} {h : Hh} {Q : VK}
theorem Wd.val {d : D} {v : V} (w : Wd K ρ H (.ok d h) (QP K Q)) (hr : HRel K ρ h H) (x : Rep K ρ H d v) : Q v H := w.ok ρ H .refl hr v x
theorem Wd.tup {ds : List D} {vs : List V} (w : Wd K ρ H (.ok (.tup ds) h) (QP K Q)) (hr : HRel K ρ h H) (x : Reps K ρ H ds vs) : ∀ p, H p = none → Q (.ref p) (upd H p (.tup vs)) := fun p n =>
  w.ok ρ _ (.new n) (hr.junk n) _ ⟨p, vs, rfl, .of upd_same, Reps.mono (.new n) _ x⟩
theorem Wd.lst {ds : List D} {vs : List V} (w : Wd K ρ H (.ok (.obj h.length) (h ++ [.lst ds])) (QP K Q)) (hr : HRel K ρ h H) (x : Reps K ρ H ds vs) : ∀ p, H p = none → Q (.ref p) (upd H p (.lst vs)) := fun p n =>
  w.ok _ _ (.push n) (hr.push n x) _ ⟨p, by rw [List.getElem?_append_right (by rw [hr.len]; omega), hr.len]; simp, rfl⟩
theorem Rep.lst {n : Nat} {v : V} {xs : List D} (hr : HRel K ρ h H) (r : Rep K ρ H (.obj n) v) (e : h[n]? = some (.lst xs)) : ∃ a vs, v = .ref a ∧ ρ[n]? = some a ∧ H a = some (.lst vs) ∧ Reps K ρ H xs vs := by
  obtain ⟨a, ea, rfl⟩ := r
  obtain ⟨vs, e1, e2⟩ := (show ORel K ρ H a (.lst xs) from hr.at_ n a _ ea e)
  exact ⟨a, vs, rfl, ea, e1, e2⟩
theorem Rep.seq {n : Nat} {v : V} {xs : List D} (hr : HRel K ρ h H) (r : Rep K ρ H (.obj n) v) (e : h[n]? = some (.lst xs)) : ∃ a vs, v = .ref a ∧ ρ[n]? = some a ∧ SqL K H a vs ∧ Reps K ρ H xs vs := by
  obtain ⟨a, ea, rfl⟩ := r
  obtain ⟨vs, e1, e2⟩ := (hr.at_ n a _ ea e).list
  exact ⟨a, vs, rfl, ea, e1, e2⟩
end

/-! ### operators -/
def OpS (K : PySem.W.Frag) (o : Op) (r : R2) : Prop := ∀ (ρ : List Addr) (h : Hh) (H : Hp) (x y : D) (v u : V) (Q : VK), HRel K ρ h H → Rep K ρ H x v → Rep K ρ H y u → Wd K ρ H (binop o x y h) (QP K Q) → r v u H Q
def opr : Op → Operator
  | .add => .Add | .sub => .Sub | .mul => .Mult | .fdiv => .FloorDiv | .mod => .Mod | .pow => .Pow

theorem op_addS {X : Cx} : ∃ r, OpR X (binaryOp .Add) r ∧ OpS X.K .add r := by
  refine ⟨_, op_add.or (op_add_str.or (op_catA.or op_cat)), fun ρ h H x y v u Q hr rx ry w => ?_⟩
  cases x with
  | int i =>
    cases y with
    | int j => cases (show v = .int i from rx); cases (show u = .int j from ry); exact .inl ⟨i, j, rfl, rfl, w.val hr rfl⟩
    | _ => exact w.bad.elim
  | str i =>
    cases y with
    | str j =>
      cases (show v = .str i from rx); cases (show u = .str j from ry)
      by_cases c : i.length + j.length ≤ sizeLine
      · rw [show binop .add (.str i) (.str j) h = .ok (.str (i ++ j)) h from if_pos c] at w
        exact .inr (.inl ⟨i, j, rfl, rfl, c, w.val hr rfl⟩)
      · rw [show binop .add (.str i) (.str j) h = .bad from if_neg c] at w
        exact w.bad.elim
    | _ => exact w.bad.elim
  | tup xs =>
    cases y with
    | tup ys =>
      obtain ⟨a, vs, rfl, sa, ra⟩ := rx
      obtain ⟨b, us, rfl, sb, rb⟩ := ry
      by_cases c : xs.length + ys.length ≤ sizeLine
      · rw [show binop .add (.tup xs) (.tup ys) h = .ok (.tup (xs ++ ys)) h from if_pos c] at w
        refine .inr (.inr (.inl ⟨a, b, vs, us, rfl, rfl, sa, sb, by rw [← ra.length, ← rb.length]; exact c, fun e => ?_, fun _ e => ?_, fun _ _ => w.tup hr (ra.append rb)⟩))
        · subst e
          have : xs = [] := List.eq_nil_of_length_eq_zero ra.length
          subst this
          exact w.val hr ⟨b, us, rfl, sb, rb⟩
        · subst e
          have : ys = [] := List.eq_nil_of_length_eq_zero rb.length
          subst this
          rw [List.append_nil] at w
          exact w.val hr ⟨a, vs, rfl, sa, ra⟩
      · rw [show binop .add (.tup xs) (.tup ys) h = .bad from if_neg c] at w
        exact w.bad.elim
    | _ => exact w.bad.elim
  | obj n =>
    cases y with
    | obj m =>
      simp only [binop] at w
      split at w
      · rename_i xs ys e1 e2
        obtain ⟨a, vs, rfl, _, ha, ra⟩ := Rep.lst hr rx e1
        obtain ⟨b, us, rfl, _, hb, rb⟩ := Rep.lst hr ry e2
        split at w
        · rename_i c
          exact .inr (.inr (.inr ⟨a, b, vs, us, rfl, rfl, ha, hb, by rw [← ra.length, ← rb.length]; exact c, w.lst hr (ra.append rb)⟩))
        · exact w.bad.elim
      · exact w.bad.elim
    | _ => exact w.bad.elim
  | _ => cases y <;> exact w.bad.elim
theorem op_subS {X : Cx} : ∃ r, OpR X (binaryOp .Sub) r ∧ OpS X.K .sub r := by
  refine ⟨_, op_sub, fun ρ h H x y v u Q hr rx ry w => ?_⟩
  cases x with
  | int i =>
    cases y with
    | int j => cases (show v = .int i from rx); cases (show u = .int j from ry); exact ⟨i, j, rfl, rfl, w.val hr rfl⟩
    | _ => exact w.bad.elim
  | _ => cases y <;> exact w.bad.elim
theorem op_mulS {X : Cx} : ∃ r, OpR X (binaryOp .Mult) r ∧ OpS X.K .mul r := by
  refine ⟨_, op_mul.or (op_mulW.or op_rep), fun ρ h H x y v u Q hr rx ry w => ?_⟩
  cases x with
  | int i =>
    cases y with
    | int j =>
      cases (show v = .int i from rx); cases (show u = .int j from ry)
      simp only [binop] at w
      split at w
      · rename_i c
        rcases c with c | c
        · exact .inl ⟨i, j, rfl, rfl, c, w.val hr rfl⟩
        · exact .inr (.inl ⟨i, j, rfl, rfl, c, w.val hr rfl⟩)
      · exact w.bad.elim
    | _ => exact w.bad.elim
  | obj n =>
    cases y with
    | int k =>
      cases (show u = .int k from ry)
      simp only [binop] at w
      split at w
      · rename_i xs e1
        obtain ⟨a, vs, rfl, _, ha, ra⟩ := Rep.lst hr rx e1
        split at w
        · rename_i c
          exact .inr (.inr ⟨a, k, vs, rfl, rfl, ha, c.1, c.2.1, by rw [← ra.length]; exact c.2.2, w.lst hr (ra.rep _)⟩)
        · exact w.bad.elim
      · exact w.bad.elim
    | _ => exact w.bad.elim
  | _ => cases y <;> exact w.bad.elim
theorem op_fdivS {X : Cx} : ∃ r, OpR X (binaryOp .FloorDiv) r ∧ OpS X.K .fdiv r := by
  refine ⟨_, op_fdiv.or op_fdivW, fun ρ h H x y v u Q hr rx ry w => ?_⟩
  cases x with
  | int i =>
    cases y with
    | int j =>
      cases (show v = .int i from rx); cases (show u = .int j from ry)
      simp only [binop] at w
      split at w
      · rename_i c
        rcases c with ⟨c0, c | c⟩
        · exact .inl ⟨i, j, rfl, rfl, ⟨c0, c⟩, w.val hr rfl⟩
        · exact .inr ⟨i, j, rfl, rfl, ⟨c0, c⟩, w.val hr rfl⟩
      · exact w.bad.elim
    | _ => exact w.bad.elim
  | _ => cases y <;> exact w.bad.elim
theorem op_modS {X : Cx} : ∃ r, OpR X (binaryOp .Mod) r ∧ OpS X.K .mod r := by
  refine ⟨_, op_mod, fun ρ h H x y v u Q hr rx ry w => ?_⟩
  cases x with
  | int i =>
    cases y with
    | int j =>
      cases (show v = .int i from rx); cases (show u = .int j from ry)
      simp only [binop] at w
      split at w
      · rename_i c
        exact ⟨i, j, rfl, rfl, c, w.val hr rfl⟩
      · exact w.bad.elim
    | _ => exact w.bad.elim
  | _ => cases y <;> exact w.bad.elim
theorem op_powS {X : Cx} : ∃ r, OpR X (binaryOp .Pow) r ∧ OpS X.K .pow r := by
  refine ⟨_, op_pow, fun ρ h H x y v u Q hr rx ry w => ?_⟩
  cases x with
  | int i =>
    cases y with
    | int j =>
      cases (show v = .int i from rx); cases (show u = .int j from ry)
      simp only [binop] at w
      split at w
      · rename_i c
        exact ⟨i, j, rfl, rfl, c, w.val hr rfl⟩
      · exact w.bad.elim
    | _ => exact w.bad.elim
  | _ => cases y <;> exact w.bad.elim
theorem op_sound {X : Cx} : ∀ o : Op, ∃ r, OpR X (binaryOp (opr o)) r ∧ OpS X.K o r
  | .add => op_addS | .sub => op_subS | .mul => op_mulS | .fdiv => op_fdivS | .mod => op_modS | .pow => op_powS

/-! ### comparisons -/
mutual
theorem toP_dp {K : PySem.W.Frag} {ρ : List Addr} {h : Hh} {H : Hp} (hr : HRel K ρ h H) : ∀ (k : Nat) (d : D) (v : V) (p : PyData), Rep K ρ H d v → toP h k d = some p → Dp K H v p
  | _, .non, _, p, r, e => by simp [toP] at e; cases e; cases (show _ = V.non from r); exact .non
  | _, .bl b, _, p, r, e => by simp [toP] at e; cases e; cases (show _ = V.bl b from r); exact .bl b
  | _, .int b, _, p, r, e => by simp [toP] at e; cases e; cases (show _ = V.int b from r); exact .int b
  | _, .str b, _, p, r, e => by simp [toP] at e; cases e; cases (show _ = V.str b from r); exact .str b
  | k, .tup xs, _, p, r, e => by
    obtain ⟨a, vs, rfl, sa, ra⟩ := r
    simp only [toP] at e
    obtain ⟨ps, e1, rfl⟩ := Option.map_eq_some_iff.mp e
    exact .tup sa (toPs_dp hr k xs vs ps ra e1)
  | k, .rol xs, _, p, r, e => by
    obtain ⟨a, vs, rfl, sa, ra⟩ := r
    simp only [toP] at e
    obtain ⟨ps, e1, rfl⟩ := Option.map_eq_some_iff.mp e
    exact .lst sa.sqL (toPs_dp hr k xs vs ps ra e1)
  | 0, .obj n, _, p, r, e => by simp [toP] at e
  | k + 1, .obj n, v, p, r, e => by
    simp only [toP] at e
    split at e
    · rename_i xs q
      obtain ⟨ps, e1, rfl⟩ := Option.map_eq_some_iff.mp e
      obtain ⟨a, vs, rfl, _, sa, ra⟩ := Rep.seq hr r q
      exact .lst sa (toPs_dp hr k xs vs ps ra e1)
    · cases e
termination_by k d => (k, sizeOf d)
theorem toPs_dp {K : PySem.W.Frag} {ρ : List Addr} {h : Hh} {H : Hp} (hr : HRel K ρ h H) : ∀ (k : Nat) (ds : List D) (vs : List V) (ps : List PyData), Reps K ρ H ds vs → toPs h k ds = some ps → DpAll K H vs ps
  | _, [], _, ps, r, e => by simp [toPs] at e; subst e; cases (show _ = [] from r); exact .nil
  | k, d :: ds, _, ps, ⟨v, r, rfl, x, y⟩, e => by
    simp only [toPs] at e
    split at e
    · rename_i p qs e1 e2
      cases e
      exact .cons (toP_dp hr k d v p x e1) (toPs_dp hr k ds r qs y e2)
    · cases e
termination_by k ds => (k, sizeOf ds)
end
end Ev

set_option Elab.async false
set_option linter.all false
set_option maxRecDepth 100000
set_option maxHeartbeats 4000000
namespace Ev
open PySem PySem.Spec PyProof.Rows L2

def cmo : Cm → CmpOp
  | .eq => .Eq | .ne => .NotEq | .lt => .Lt | .le => .LtE | .gt => .Gt | .ge => .GtE | .is => .Is | .isn => .IsNot | .inn => .In | .nin => .NotIn
/-- a comparison's rule: it leaves the store as it is -/
def CmS (K : PySem.W.Frag) (o : Cm) (r : R2) : Prop := ∀ (ρ : List Addr) (h : Hh) (H : Hp) (x y : D) (v u : V) (b : Bool) (Q : VK), HRel K ρ h H → Rep K ρ H x v → Rep K ρ H y u → cmpop h o x y = some b → Q (.bl b) H → r v u H Q
section
variable {X : Cx}
theorem eqD_str {h : Hh} {x y : D} {b : Bool} (e : eqD h x y = some b) : (∃ a c, x = .str a ∧ y = .str c ∧ b = decide (a = c)) ∨
    ∃ p q, toP h 8 x = some p ∧ toP h 8 y = some q ∧ SeqAt.shaped p = true ∧ SeqAt.shaped q = true ∧ b = PyData.eqv p q := by
  unfold eqD at e
  split at e
  · exact .inl ⟨_, _, rfl, rfl, (Option.some.inj e).symm⟩
  · split at e
    · rename_i p q e1 e2
      split at e
      · rename_i c
        exact .inr ⟨p, q, e1, e2, c.1, c.2, (Option.some.inj e).symm⟩
      · cases e
    · cases e
theorem cm_eq (hu : X.A.units + 64 < cLine) : ∃ r, OpR X (compareOp .Eq) r ∧ CmS X.K .eq r := by
  refine ⟨_, op_eq.or (op_eqD hu), fun ρ h H x y v u b Q hr rx ry e q => ?_⟩
  rcases eqD_str (show eqD h x y = some b from e) with ⟨a, c, rfl, rfl, rfl⟩ | ⟨p, p', e1, e2, s1, s2, rfl⟩
  · cases (show v = .str a from rx); cases (show u = .str c from ry)
    refine .inl ⟨rfl, ?_⟩
    rw [show decide (V.str a = V.str c) = decide (a = c) by rw [dec_str, Bool.eq_iff_iff]; simp]
    exact q
  · exact .inr ⟨p, p', toP_dp hr 8 x v p rx e1, toP_dp hr 8 y u p' ry e2, s1, s2, q⟩
theorem cm_ne (hu : X.A.units + 64 < cLine) : ∃ r, OpR X (compareOp .NotEq) r ∧ CmS X.K .ne r := by
  refine ⟨_, op_ne.or (op_neD hu), fun ρ h H x y v u b Q hr rx ry e q => ?_⟩
  obtain ⟨b', e', rfl⟩ := Option.map_eq_some_iff.mp (show (eqD h x y).map (!·) = some b from e)
  rcases eqD_str e' with ⟨a, c, rfl, rfl, rfl⟩ | ⟨p, p', e1, e2, s1, s2, rfl⟩
  · cases (show v = .str a from rx); cases (show u = .str c from ry)
    refine .inl ⟨rfl, ?_⟩
    rw [show decide (V.str a = V.str c) = decide (a = c) by rw [dec_str, Bool.eq_iff_iff]; simp]
    exact q
  · exact .inr ⟨p, p', toP_dp hr 8 x v p rx e1, toP_dp hr 8 y u p' ry e2, s1, s2, q⟩
theorem cm_int {o : Cm} {f : Int → Int → Bool} (ho : OpR X (compareOp (cmo o)) (rI0 fun i j => .bl (f i j))) (hc : ∀ h x y b, cmpop h o x y = some b → ∃ i j, x = .int i ∧ y = .int j ∧ b = f i j) : ∃ r, OpR X (compareOp (cmo o)) r ∧ CmS X.K o r := by
  refine ⟨_, ho, fun ρ h H x y v u b Q hr rx ry e q => ?_⟩
  obtain ⟨i, j, rfl, rfl, rfl⟩ := hc h x y b e
  cases (show v = .int i from rx); cases (show u = .int j from ry)
  exact ⟨i, j, rfl, rfl, q⟩
theorem rep_non {K : PySem.W.Frag} {ρ : List Addr} {H : Hp} {x : D} {v : V} (r : Rep K ρ H x v) : decide (v = .non) = decide (x = .non) := by
  cases x with
  | non => cases (show v = .non from r); rfl
  | bl b => cases (show v = .bl b from r); rfl
  | int b => cases (show v = .int b from r); rfl
  | str b => cases (show v = .str b from r); rfl
  | tup xs => obtain ⟨a, vs, rfl, _⟩ := r; rfl
  | rol xs => obtain ⟨a, vs, rfl, _⟩ := r; rfl
  | obj n => obtain ⟨a, _, rfl⟩ := r; rfl
theorem cm_is : ∃ r, OpR X (compareOp .Is) r ∧ CmS X.K .is r := by
  refine ⟨_, op_isN.or op_isBl, fun ρ h H x y v u b Q hr rx ry e q => ?_⟩
  cases y with
  | non =>
    cases (show u = .non from ry)
    have e' : some (decide (x = D.non)) = some b := by cases x <;> exact e
    cases e'
    exact .inl ⟨rfl, by rw [rep_non rx]; exact q⟩
  | bl c =>
    cases x with
    | bl a =>
      cases (show v = .bl a from rx); cases (show u = .bl c from ry)
      cases (show some (decide (a = c)) = some b from e)
      exact .inr ⟨a, c, rfl, rfl, q⟩
    | _ => cases e
  | _ => cases x <;> cases e
theorem cm_isn : ∃ r, OpR X (compareOp .IsNot) r ∧ CmS X.K .isn r := by
  refine ⟨_, op_notN.or op_notBl, fun ρ h H x y v u b Q hr rx ry e q => ?_⟩
  cases y with
  | non =>
    cases (show u = .non from ry)
    have e' : some (!decide (x = D.non)) = some b := by cases x <;> exact e
    cases e'
    exact .inl ⟨rfl, by rw [rep_non rx]; exact q⟩
  | bl c =>
    cases x with
    | bl a =>
      cases (show v = .bl a from rx); cases (show u = .bl c from ry)
      cases (show some (!decide (a = c)) = some b from e)
      exact .inr ⟨a, c, rfl, rfl, q⟩
    | _ => cases e
  | _ => cases x <;> cases e
theorem in_some {h : Hh} {x y : D} {b : Bool} (e : inD h x y = some b) : ∃ n p qs, y = .obj n ∧ toP h 8 x = some p ∧ toP h 8 (.obj n) = some (.list qs) ∧ SeqAt.shaped p = true ∧ SeqAt.shaped (.list qs) = true ∧ b = (qs.any fun z => PyData.eqv z p) := by
  unfold inD at e
  split at e
  · split at e
    · rename_i n p qs e3 e4
      split at e
      · rename_i c
        exact ⟨_, p, qs, rfl, e3, e4, c.1, c.2, (Option.some.inj e).symm⟩
      · cases e
    · cases e
  · cases e
theorem cm_in (hu : X.A.units + 65 < cLine) : ∃ r, OpR X (compareOp .In) r ∧ CmS X.K .inn r := by
  refine ⟨_, op_inD hu, fun ρ h H x y v u b Q hr rx ry e q => ?_⟩
  have e' : inD h x y = some b := by cases x <;> cases y <;> exact e
  obtain ⟨n, p, qs, rfl, e1, e2, s1, s2, rfl⟩ := in_some e'
  exact ⟨p, qs, toP_dp hr 8 x v p rx e1, toP_dp hr 8 _ u _ ry e2, s1, s2, q⟩
theorem cm_nin (hu : X.A.units + 65 < cLine) : ∃ r, OpR X (compareOp .NotIn) r ∧ CmS X.K .nin r := by
  refine ⟨_, op_notInD hu, fun ρ h H x y v u b Q hr rx ry e q => ?_⟩
  have e' : (inD h x y).map (!·) = some b := by cases x <;> cases y <;> exact e
  obtain ⟨b', e3, rfl⟩ := Option.map_eq_some_iff.mp e'
  obtain ⟨n, p, qs, rfl, e1, e2, s1, s2, rfl⟩ := in_some e3
  exact ⟨p, qs, toP_dp hr 8 x v p rx e1, toP_dp hr 8 _ u _ ry e2, s1, s2, q⟩
theorem cm_sound (hu : X.A.units + 65 < cLine) : ∀ o : Cm, ∃ r, OpR X (compareOp (cmo o)) r ∧ CmS X.K o r
  | .eq => cm_eq (by omega)
  | .ne => cm_ne (by omega)
  | .lt => cm_int (o := .lt) op_lt fun h x y b e => by
    cases x <;> cases y <;> first | exact ⟨_, _, rfl, rfl, (Option.some.inj e).symm⟩ | cases e
  | .le => cm_int (o := .le) op_le fun h x y b e => by
    cases x <;> cases y <;> first | exact ⟨_, _, rfl, rfl, (Option.some.inj e).symm⟩ | cases e
  | .gt => cm_int (o := .gt) op_gt fun h x y b e => by
    cases x <;> cases y <;> first | exact ⟨_, _, rfl, rfl, (Option.some.inj e).symm⟩ | cases e
  | .ge => cm_int (o := .ge) op_ge fun h x y b e => by
    cases x <;> cases y <;> first | exact ⟨_, _, rfl, rfl, (Option.some.inj e).symm⟩ | cases e
  | .is => cm_is
  | .isn => cm_isn
  | .inn => cm_in hu
  | .nin => cm_nin hu
end

/-! ### built-ins by value -/
def CaS (K : PySem.W.Frag) (f : List D → Hh → R D) (r : List V → Hp → VK → Prop) : Prop := ∀ (ρ : List Addr) (h : Hh) (H : Hp) (xs : List D) (vs : List V) (Q : VK), HRel K ρ h H → Reps K ρ H xs vs → Wd K ρ H (f xs h) (QP K Q) → r vs H Q
section
variable {K : PySem.W.Frag} {ρ : List Addr} {H : Hp} {h : Hh} {Q : VK}
theorem toInts_rep : ∀ {xs : List D} {is : List Int} {vs : List V}, toInts xs = some is → Reps K ρ H xs vs → vs = is.map V.int
  | [], is, vs, e, r => by cases e; exact r
  | .int i :: xs, is, _, e, ⟨v, r, rfl, x, y⟩ => by
    obtain ⟨js, e1, rfl⟩ := Option.map_eq_some_iff.mp e
    cases (show v = .int i from x)
    rw [toInts_rep e1 y]; rfl
  | .non :: _, _, _, e, _ => by cases e
  | .bl _ :: _, _, _, e, _ => by cases e
  | .str _ :: _, _, _, e, _ => by cases e
  | .tup _ :: _, _, _, e, _ => by cases e
  | .rol _ :: _, _, _, e, _ => by cases e
  | .obj _ :: _, _, _, e, _ => by cases e
theorem toBools_rep : ∀ {xs : List D} {is : List Bool} {vs : List V}, toBools xs = some is → Reps K ρ H xs vs → vs = is.map V.bl
  | [], is, vs, e, r => by cases e; exact r
  | .bl i :: xs, is, _, e, ⟨v, r, rfl, x, y⟩ => by
    obtain ⟨js, e1, rfl⟩ := Option.map_eq_some_iff.mp e
    cases (show v = .bl i from x)
    rw [toBools_rep e1 y]; rfl
  | .non :: _, _, _, e, _ => by cases e
  | .int _ :: _, _, _, e, _ => by cases e
  | .str _ :: _, _, _, e, _ => by cases e
  | .tup _ :: _, _, _, e, _ => by cases e
  | .rol _ :: _, _, _, e, _ => by cases e
  | .obj _ :: _, _, _, e, _ => by cases e
theorem maxL_is : ∀ {l : List Int} {m : Int}, m ∈ l → (∀ y, y ∈ l → y ≤ m) → maxL l = m
  | [], m, h, _ => by cases h
  | [a], m, h, _ => by simp at h; exact h.symm
  | a :: b :: r, m, h, q => by
    show max a (maxL (b :: r)) = m
    have hb : ∃ z, z ∈ b :: r ∧ ∀ y, y ∈ b :: r → y ≤ z := by
      have : ∀ l : List Int, l ≠ [] → ∃ z, z ∈ l ∧ ∀ y, y ∈ l → y ≤ z := by
        intro l
        induction l with
        | nil => intro z; exact absurd rfl z
        | cons c s ih =>
          intro _
          by_cases hs : s = []
          · subst hs; exact ⟨c, by simp, by simp⟩
          · obtain ⟨z, hz, hq⟩ := ih hs
            by_cases hc : c ≤ z
            · exact ⟨z, List.mem_cons_of_mem _ hz, fun y hy => by rcases List.mem_cons.mp hy with rfl | hy; exact hc; exact hq y hy⟩
            · exact ⟨c, List.mem_cons_self, fun y hy => by rcases List.mem_cons.mp hy with rfl | hy; exact Int.le_refl _; have := hq y hy; omega⟩
      exact this _ (by simp)
    obtain ⟨z, hz, hq⟩ := hb
    rw [maxL_is hz hq]
    have h1 := q a (by simp)
    have h2 := q z (List.mem_cons_of_mem _ hz)
    rcases List.mem_cons.mp h with rfl | h
    · omega
    · have := hq m h; omega
theorem minL_is : ∀ {l : List Int} {m : Int}, m ∈ l → (∀ y, y ∈ l → m ≤ y) → minL l = m
  | [], m, h, _ => by cases h
  | [a], m, h, _ => by simp at h; exact h.symm
  | a :: b :: r, m, h, q => by
    show min a (minL (b :: r)) = m
    have hb : ∃ z, z ∈ b :: r ∧ ∀ y, y ∈ b :: r → z ≤ y := by
      have : ∀ l : List Int, l ≠ [] → ∃ z, z ∈ l ∧ ∀ y, y ∈ l → z ≤ y := by
        intro l
        induction l with
        | nil => intro z; exact absurd rfl z
        | cons c s ih =>
          intro _
          by_cases hs : s = []
          · subst hs; exact ⟨c, by simp, by simp⟩
          · obtain ⟨z, hz, hq⟩ := ih hs
            by_cases hc : z ≤ c
            · exact ⟨z, List.mem_cons_of_mem _ hz, fun y hy => by rcases List.mem_cons.mp hy with rfl | hy; exact hc; exact hq y hy⟩
            · exact ⟨c, List.mem_cons_self, fun y hy => by rcases List.mem_cons.mp hy with rfl | hy; exact Int.le_refl _; have := hq y hy; omega⟩
      exact this _ (by simp)
    obtain ⟨z, hz, hq⟩ := hb
    rw [minL_is hz hq]
    have h1 := q a (by simp)
    have h2 := q z (List.mem_cons_of_mem _ hz)
    rcases List.mem_cons.mp h with rfl | h
    · omega
    · have := hq m h; omega
end
end Ev

set_option Elab.async false
set_option linter.all false
set_option maxRecDepth 100000
set_option maxHeartbeats 4000000
namespace Ev
open PySem PySem.Spec PyProof.Rows L2

/-- what stands under a built-in's name -/
def fvB : Bi → Value
  | .len => .builtin "len" | .abs => .builtin "abs" | .min => .builtin "min" | .max => .builtin "max" | .sum => .builtin "sum" | .all => .builtin "all" | .any => .builtin "any"
  | .int => .type "int" | .list => .type "list" | .tuple => .type "tuple" | .divmod => .builtin "divmod" | .str => .type "str" | .repr => .builtin "repr" | .isi _ => .builtin "isinstance" | .lzip => .type "list"
def CbS (K : PySem.W.Frag) (b : Bi) (r : List V → Hp → VK → Prop) : Prop := ∀ (ρ : List Addr) (h : Hh) (H : Hp) (xs : List D) (vs : List V) (p : Addr) (Q : VK), HRel K ρ h H → Reps K ρ H xs vs → SqL K H p vs → Wd K ρ H (biL b xs h) (QP K Q) → r [.ref p] H Q
/-- a built-in's rule, by its values, and over a list -/
def BiOk (X : Cx) (b : Bi) : Prop := ∃ r, CallR X (fvB b) r ∧ CaS X.K (biop b) r ∧ CbS X.K b r
theorem reps1 {K : PySem.W.Frag} {ρ : List Addr} {H : Hp} {x : D} {vs : List V} (r : Reps K ρ H [x] vs) : ∃ v, vs = [v] ∧ Rep K ρ H x v := by
  obtain ⟨v, t, rfl, rv, q⟩ := r
  cases (show t = [] from q)
  exact ⟨v, rfl, rv⟩
theorem reps2 {K : PySem.W.Frag} {ρ : List Addr} {H : Hp} {x y : D} {vs : List V} (r : Reps K ρ H [x, y] vs) : ∃ v u, vs = [v, u] ∧ Rep K ρ H x v ∧ Rep K ρ H y u := by
  obtain ⟨v, t, rfl, rv, q⟩ := r
  obtain ⟨u, rfl, ru⟩ := reps1 q
  exact ⟨v, u, rfl, rv, ru⟩
section
variable {X : Cx}
/-- over a list that stands in the store -/
theorem of_obj {K : PySem.W.Frag} {b : Bi} {r : List V → Hp → VK → Prop} (hb : CbS K b r) {ρ : List Addr} {h : Hh} {H : Hp} {n : Nat} {u : V} {Q : VK} (hr : HRel K ρ h H) (ru : Rep K ρ H (.obj n) u)
    (w : Wd K ρ H (match h[n]? with | some (.lst xs) => biL b xs h | none => .bad) (QP K Q)) : r [u] H Q := by
  split at w
  · rename_i xs e
    obtain ⟨a, vs, rfl, _, sa, ra⟩ := Rep.seq hr ru e
    exact hb ρ h H xs vs a Q hr ra sa w
  · exact w.bad.elim
theorem of_rol {K : PySem.W.Frag} {b : Bi} {r : List V → Hp → VK → Prop} (hb : CbS K b r) {ρ : List Addr} {h : Hh} {H : Hp} {xs : List D} {u : V} {Q : VK} (hr : HRel K ρ h H) (ru : Rep K ρ H (.rol xs) u)
    (w : Wd K ρ H (biL b xs h) (QP K Q)) : r [u] H Q := by
  obtain ⟨a, vs, rfl, sa, ra⟩ := ru
  exact hb ρ h H xs vs a Q hr ra sa.sqL w
theorem bi_len : BiOk X .len := by
  have hb : CbS X.K .len (fun xs H Q => (∃ p ys, xs = [.ref p] ∧ (SqL X.K H p ys ∨ SqT X.K H p ys) ∧ Q (.int ys.length) H) ∨ ∃ z, xs = [.str z] ∧ z.length ≤ sizeLine ∧ Q (.int z.length) H) := by
    intro ρ h H xs vs p Q hr rx sl w
    refine .inl ⟨p, vs, rfl, .inl sl, ?_⟩
    rw [← rx.length]
    exact Wd.val w hr rfl
  refine ⟨_, call_len_seq.or call_len_str, fun ρ h H xs vs Q hr rx w => ?_, hb⟩
  match xs, rx with
  | [], _ => exact w.bad.elim
  | _ :: _ :: _, _ => rename_i a b c _; cases a <;> exact w.bad.elim
  | [x], rx =>
    obtain ⟨v, rfl, rv⟩ := reps1 rx
    cases x with
    | str z =>
      cases (show v = .str z from rv)
      by_cases c : z.length ≤ sizeLine
      · rw [show biop .len [.str z] h = .ok (.int z.length) h from if_pos c] at w
        exact .inr ⟨z, rfl, c, w.val hr rfl⟩
      · rw [show biop .len [.str z] h = .bad from if_neg c] at w
        exact w.bad.elim
    | tup xs =>
      obtain ⟨a, vs, rfl, sa, ra⟩ := rv
      refine .inl ⟨a, vs, rfl, .inr sa, ?_⟩
      rw [← ra.length]
      exact Wd.val w hr rfl
    | obj n => exact of_obj hb hr rv w
    | rol xs => exact of_rol hb hr rv w
    | _ => exact w.bad.elim
theorem bi_abs : BiOk X .abs := by
  refine ⟨_, call_abs, fun ρ h H xs vs Q hr rx w => ?_, fun ρ h H xs vs p Q hr rx sl w => w.bad.elim⟩
  match xs, rx with
  | [], _ => exact w.bad.elim
  | _ :: _ :: _, _ => rename_i a b c _; cases a <;> exact w.bad.elim
  | [x], rx =>
    obtain ⟨v, rfl, rv⟩ := reps1 rx
    cases x with
    | int i => cases (show v = .int i from rv); exact ⟨i, rfl, w.val hr rfl⟩
    | obj n =>
      simp only [biop] at w
      split at w <;> exact w.bad.elim
    | _ => exact w.bad.elim
theorem bi_max (hc : X.calm = true) : BiOk X .max := by
  have hb : CbS X.K .max (fun xs H Q => (∃ i j, xs = [V.int i, .int j] ∧ Q (.int (if j > i then j else i)) H) ∨ rMax X.K xs H Q) := by
    intro ρ h H xs vs p Q hr rx sl w
    simp only [biL] at w
    split at w
    · rename_i i is e
      have ev := toInts_rep e rx
      subst ev
      refine .inr ⟨p, i :: is, rfl, sl, by simp, fun m hm hq => ?_⟩
      rw [maxL_is hm hq] at w
      exact Wd.val w hr rfl
    · exact w.bad.elim
  refine ⟨_, (call_max2 hc).or (cr_max hc), fun ρ h H xs vs Q hr rx w => ?_, hb⟩
  match xs, rx with
  | [], _ => exact w.bad.elim
  | [x], rx =>
    obtain ⟨v, rfl, rv⟩ := reps1 rx
    cases x with
    | obj n => exact of_obj hb hr rv w
    | rol xs => exact of_rol hb hr rv w
    | _ => exact w.bad.elim
  | [x, y], rx =>
    obtain ⟨v, u, rfl, rv, ru⟩ := reps2 rx
    cases x with
    | int i =>
      cases y with
      | int j => cases (show v = .int i from rv); cases (show u = .int j from ru); exact .inl ⟨i, j, rfl, w.val hr rfl⟩
      | _ => exact w.bad.elim
    | _ => exact w.bad.elim
  | a :: b :: _ :: _, _ => cases a <;> first | exact w.bad.elim | (cases b <;> exact w.bad.elim)
theorem bi_min (hc : X.calm = true) : BiOk X .min := by
  have hb : CbS X.K .min (fun xs H Q => (∃ i j, xs = [V.int i, .int j] ∧ Q (.int (if j < i then j else i)) H) ∨ rMin X.K xs H Q) := by
    intro ρ h H xs vs p Q hr rx sl w
    simp only [biL] at w
    split at w
    · rename_i i is e
      have ev := toInts_rep e rx
      subst ev
      refine .inr ⟨p, i :: is, rfl, sl, by simp, fun m hm hq => ?_⟩
      rw [minL_is hm hq] at w
      exact Wd.val w hr rfl
    · exact w.bad.elim
  refine ⟨_, (call_min2 hc).or (cr_min hc), fun ρ h H xs vs Q hr rx w => ?_, hb⟩
  match xs, rx with
  | [], _ => exact w.bad.elim
  | [x], rx =>
    obtain ⟨v, rfl, rv⟩ := reps1 rx
    cases x with
    | obj n => exact of_obj hb hr rv w
    | rol xs => exact of_rol hb hr rv w
    | _ => exact w.bad.elim
  | [x, y], rx =>
    obtain ⟨v, u, rfl, rv, ru⟩ := reps2 rx
    cases x with
    | int i =>
      cases y with
      | int j => cases (show v = .int i from rv); cases (show u = .int j from ru); exact .inl ⟨i, j, rfl, w.val hr rfl⟩
      | _ => exact w.bad.elim
    | _ => exact w.bad.elim
  | a :: b :: _ :: _, _ => cases a <;> first | exact w.bad.elim | (cases b <;> exact w.bad.elim)
/-- a built-in that takes one list alone -/
theorem bi_one {b : Bi} {r : List V → Hp → VK → Prop} (c : CallR X (fvB b) r) (hb : CbS X.K b r) (h1 : ∀ xs h, (∀ n, xs ≠ [.obj n]) → (∀ ys, xs ≠ [.rol ys]) → biop b xs h = .bad) (h3 : ∀ xs h, biop b [.rol xs] h = biL b xs h)
    (h2 : ∀ n h, biop b [.obj n] h = (match h[n]? with | some (.lst xs) => biL b xs h | none => .bad)) : BiOk X b := by
  refine ⟨r, c, fun ρ h H xs vs Q hr rx w => ?_, hb⟩
  by_cases e : ∃ n, xs = [.obj n]
  · obtain ⟨n, rfl⟩ := e
    obtain ⟨v, rfl, rv⟩ := reps1 rx
    rw [h2] at w
    exact of_obj hb hr rv w
  · by_cases e2 : ∃ ys, xs = [.rol ys]
    · obtain ⟨ys, rfl⟩ := e2
      obtain ⟨v, rfl, rv⟩ := reps1 rx
      rw [h3] at w
      exact of_rol hb hr rv w
    · rw [h1 xs h (fun n z => e ⟨n, z⟩) fun n z => e2 ⟨n, z⟩] at w
      exact w.bad.elim
theorem one_bad {xs : List D} (f : ∀ n, xs ≠ [.obj n]) (g : ∀ n, xs ≠ [.rol n]) : xs = [] ∨ (∃ a, xs = [a] ∧ (∀ n, a ≠ .obj n) ∧ ∀ n, a ≠ .rol n) ∨ ∃ a b c, xs = a :: b :: c := by
  match xs with
  | [] => exact .inl rfl
  | [a] => exact .inr (.inl ⟨a, rfl, fun n e => f n (by rw [e]), fun n e => g n (by rw [e])⟩)
  | a :: b :: c => exact .inr (.inr ⟨a, b, c, rfl⟩)
theorem bi_sum (hc : X.calm = true) : BiOk X .sum := by
  refine bi_one (cr_sum hc) (fun ρ h H xs vs p Q hr rx sl w => ?_) (fun xs h f g => ?_) (fun _ _ => rfl) fun _ _ => rfl
  · simp only [biL] at w
    split at w
    · rename_i is e
      have ev := toInts_rep e rx
      subst ev
      exact ⟨p, is, rfl, sl, Wd.val w hr rfl⟩
    · exact w.bad.elim
  · rcases one_bad f g with rfl | ⟨a, rfl, q, q2⟩ | ⟨a, b, c, rfl⟩
    · rfl
    · cases a <;> first | rfl | exact absurd rfl (q _) | exact absurd rfl (q2 _)
    · cases a <;> rfl
theorem bi_all (hc : X.calm = true) : BiOk X .all := by
  refine bi_one (cr_all hc) (fun ρ h H xs vs p Q hr rx sl w => ?_) (fun xs h f g => ?_) (fun _ _ => rfl) fun _ _ => rfl
  · simp only [biL] at w
    split at w
    · rename_i is e
      have ev := toBools_rep e rx
      subst ev
      exact ⟨p, is, rfl, sl, Wd.val w hr rfl⟩
    · exact w.bad.elim
  · rcases one_bad f g with rfl | ⟨a, rfl, q, q2⟩ | ⟨a, b, c, rfl⟩
    · rfl
    · cases a <;> first | rfl | exact absurd rfl (q _) | exact absurd rfl (q2 _)
    · cases a <;> rfl
theorem bi_any (hc : X.calm = true) : BiOk X .any := by
  refine bi_one (cr_any hc) (fun ρ h H xs vs p Q hr rx sl w => ?_) (fun xs h f g => ?_) (fun _ _ => rfl) fun _ _ => rfl
  · simp only [biL] at w
    split at w
    · rename_i is e
      have ev := toBools_rep e rx
      subst ev
      exact ⟨p, is, rfl, sl, Wd.val w hr rfl⟩
    · exact w.bad.elim
  · rcases one_bad f g with rfl | ⟨a, rfl, q, q2⟩ | ⟨a, b, c, rfl⟩
    · rfl
    · cases a <;> first | rfl | exact absurd rfl (q _) | exact absurd rfl (q2 _)
    · cases a <;> rfl
theorem bi_int : BiOk X .int := by
  refine ⟨_, call_int1, fun ρ h H xs vs Q hr rx w => ?_, fun ρ h H xs vs p Q hr rx sl w => w.bad.elim⟩
  match xs, rx with
  | [], _ => exact w.bad.elim
  | _ :: _ :: _, _ => rename_i a b c _; cases a <;> exact w.bad.elim
  | [x], rx =>
    obtain ⟨v, rfl, rv⟩ := reps1 rx
    cases x with
    | int i => cases (show v = .int i from rv); exact .inl ⟨i, rfl, w.val hr rfl⟩
    | bl i => cases (show v = .bl i from rv); exact .inr ⟨i, rfl, w.val hr rfl⟩
    | obj n =>
      simp only [biop] at w
      split at w <;> exact w.bad.elim
    | _ => exact w.bad.elim
theorem bi_list : BiOk X .list := by
  have hb : CbS X.K .list (fun xs H Q => ∃ p ys, xs = [V.ref p] ∧ (SqL X.K H p ys ∨ SqT X.K H p ys) ∧ ∀ l, H l = none → Q (.ref l) (upd H l (.lst ys))) :=
    fun ρ h H xs vs p Q hr rx sl w => ⟨p, vs, rfl, .inl sl, Wd.lst w hr rx⟩
  refine ⟨_, call_list_of, fun ρ h H xs vs Q hr rx w => ?_, hb⟩
  match xs, rx with
  | [], _ => exact w.bad.elim
  | _ :: _ :: _, _ => rename_i a b c _; cases a <;> exact w.bad.elim
  | [x], rx =>
    obtain ⟨v, rfl, rv⟩ := reps1 rx
    cases x with
    | tup xs =>
      obtain ⟨a, vs, rfl, sa, ra⟩ := rv
      exact ⟨a, vs, rfl, .inr sa, Wd.lst w hr ra⟩
    | obj n => exact of_obj hb hr rv w
    | rol xs => exact of_rol hb hr rv w
    | _ => exact w.bad.elim
theorem bi_tuple : BiOk X .tuple := by
  have hb : CbS X.K .tuple (fun xs H Q => ∃ p ys, xs = [V.ref p] ∧ ((SqL X.K H p ys ∧ ∀ l, H l = none → Q (.ref l) (upd H l (.tup ys))) ∨ (SqT X.K H p ys ∧ Q (.ref p) H))) :=
    fun ρ h H xs vs p Q hr rx sl w => ⟨p, vs, rfl, .inl ⟨sl, Wd.tup w hr rx⟩⟩
  refine ⟨_, call_tuple_of, fun ρ h H xs vs Q hr rx w => ?_, hb⟩
  match xs, rx with
  | [], _ => exact w.bad.elim
  | _ :: _ :: _, _ => rename_i a b c _; cases a <;> exact w.bad.elim
  | [x], rx =>
    obtain ⟨v, rfl, rv⟩ := reps1 rx
    cases x with
    | tup xs =>
      obtain ⟨a, vs, rfl, sa, ra⟩ := rv
      exact ⟨a, vs, rfl, .inr ⟨sa, Wd.val w hr ⟨a, vs, rfl, sa, ra⟩⟩⟩
    | obj n => exact of_obj hb hr rv w
    | rol xs => exact of_rol hb hr rv w
    | _ => exact w.bad.elim
theorem bi_divmod : BiOk X .divmod := by
  refine ⟨_, call_divmod, fun ρ h H xs vs Q hr rx w => ?_, fun ρ h H xs vs p Q hr rx sl w => w.bad.elim⟩
  match xs, rx with
  | [], _ => exact w.bad.elim
  | [x], _ =>
    cases x with
    | obj n =>
      simp only [biop] at w
      split at w <;> exact w.bad.elim
    | _ => exact w.bad.elim
  | [x, y], rx =>
    obtain ⟨v, u, rfl, rv, ru⟩ := reps2 rx
    cases x with
    | int i =>
      cases y with
      | int j =>
        cases (show v = .int i from rv); cases (show u = .int j from ru)
        simp only [biop] at w
        split at w
        · rename_i c
          exact ⟨i, j, rfl, c, w.tup hr (.cons rfl (.one rfl))⟩
        · exact w.bad.elim
      | _ => exact w.bad.elim
    | _ => exact w.bad.elim
  | a :: b :: _ :: _, _ => cases a <;> first | exact w.bad.elim | (cases b <;> exact w.bad.elim)
theorem bi_str : BiOk X .str := by
  refine ⟨_, call_str_int, fun ρ h H xs vs Q hr rx w => ?_, fun ρ h H xs vs p Q hr rx sl w => w.bad.elim⟩
  match xs, rx with
  | [], _ => exact w.bad.elim
  | _ :: _ :: _, _ => rename_i a b c _; cases a <;> exact w.bad.elim
  | [x], rx =>
    obtain ⟨v, rfl, rv⟩ := reps1 rx
    cases x with
    | int i =>
      cases (show v = .int i from rv)
      simp only [biop] at w
      split at w
      · rename_i c
        exact ⟨i, rfl, c, w.val hr rfl⟩
      · exact w.bad.elim
    | obj n =>
      simp only [biop] at w
      split at w <;> exact w.bad.elim
    | _ => exact w.bad.elim

/-! ### isinstance -/
theorem isi_kit : ∀ (K : PySem.W.Frag) (t n : String) (b : Bool), t = "NoneType" ∨ t = "bool" ∨ t = "int" ∨ t = "str" ∨ t = "tuple" ∨ t = "list" → isiT t n = some b → PySem.W.kitOne K (.type t) (.type n) = some b := by
  intro K t n b ht e
  unfold isiT at e
  have ht' : t = "NoneType" ∨ t = "bool" ∨ t = "int" ∨ t = "str" ∨ t = "tuple" ∨ t = "list" := ht
  by_cases hn : n = "int"
  · subst hn
    rw [if_pos rfl] at e
    rcases ht' with rfl | rfl | rfl | rfl | rfl | rfl <;> (cases e; exact kit_ty (by decide +kernel))
  · rw [if_neg hn] at e
    split at e
    · rename_i c
      rcases c with rfl | rfl | rfl | rfl <;> rcases ht' with rfl | rfl | rfl | rfl | rfl | rfl <;> (cases e; exact kit_ty (by decide +kernel))
    · cases e
theorem ty_of {K : PySem.W.Frag} {ρ : List Addr} {h : Hh} {H : Hp} {x : D} {v : V} {t : String} (hr : HRel K ρ h H) (r : Rep K ρ H x v) (e : tyName h x = some t) :
    TyX K H v (.type t) ∧ (t = "NoneType" ∨ t = "bool" ∨ t = "int" ∨ t = "str" ∨ t = "tuple" ∨ t = "list") := by
  cases x with
  | non => cases e; cases (show v = .non from r); exact ⟨.base .non, by simp⟩
  | bl b => cases e; cases (show v = .bl b from r); exact ⟨.base (.bl b), by simp⟩
  | int b => cases e; cases (show v = .int b from r); exact ⟨.base (.int b), by simp⟩
  | str b => cases e; cases (show v = .str b from r); exact ⟨.base (.str b), by simp⟩
  | rol xs =>
    cases e
    obtain ⟨a, vs, rfl, sa, _⟩ := r
    refine ⟨?_, by simp⟩
    rcases sa with ⟨o, e1⟩ | ⟨o, its, m, k1, k2, _⟩
    · exact .base (.frz e1)
    · exact .kList k1 k2
  | tup xs =>
    cases e
    obtain ⟨a, vs, rfl, sa, _⟩ := r
    refine ⟨?_, by simp⟩
    rcases sa with (sa | ⟨o, sa⟩) | ⟨o, its, n, k1, k2, _⟩
    · exact .base (.tup sa)
    · exact .fTuple sa
    · exact .kTuple k1 k2
  | obj n =>
    simp only [tyName] at e
    obtain ⟨a, ea, rfl⟩ := r
    split at e
    · rename_i xs q
      cases e
      obtain ⟨vs, e1, _⟩ := (show ORel K ρ H a (.lst xs) from hr.at_ n a _ ea q)
      exact ⟨.base (.lst e1), by simp⟩
    · cases e
end
end Ev

set_option Elab.async false
set_option linter.all false
set_option maxRecDepth 100000
set_option maxHeartbeats 4000000
namespace Ev
open PySem PySem.Spec PyProof.Rows L2

section
variable {X : Cx}
theorem PE.of {e : Expr} {t t' : TE} (h : PE X e t) (f : ∀ σ H Q, t' σ H Q → t σ H Q) : PE X e t' := ⟨fun pins s σ H Q I q => h.run pins s σ H Q I (f σ H Q q)⟩
theorem PT.of {e : Expr} {t t' : TT} (h : PT X e t) (f : ∀ σ H Q, t' σ H Q → t σ H Q) : PT X e t' := ⟨fun pins s σ H Q I q => h.run pins s σ H Q I (f σ H Q q)⟩
theorem PW.of {e : Expr} {t t' : TT} (h : PW X e t) (f : ∀ σ H Q, t' σ H Q → t σ H Q) : PW X e t' := ⟨fun w pins s σ H Q I q => h.run w pins s σ H Q I (f σ H Q q)⟩
theorem PA.of {es : List Expr} {t t' : TA} (h : PA X es t) (f : ∀ σ H Q, t' σ H Q → t σ H Q) : PA X es t' := ⟨fun pos pins s σ H Q I q => h.run pos pins s σ H Q I (f σ H Q q)⟩
theorem PO.of {e : Option Expr} {t t' : TO} (h : PO X e t) (f : ∀ σ H Q, t' σ H Q → t σ H Q) : PO X e t' := ⟨fun pins s σ H Q I q => h.run pins s σ H Q I (f σ H Q q)⟩
theorem PS.of {e : Stmt} {t t' : TS} (h : PS X e t) (f : ∀ D σ H, t' D σ H → t D σ H) : PS X e t' := ⟨fun pins s σ H D I q => h.run pins s σ H D I (f D σ H q)⟩
theorem PSs.of {e : List Stmt} {t t' : TS} (h : PSs X e t) (f : ∀ D σ H, t' D σ H → t D σ H) : PSs X e t' := ⟨fun pins s σ H D I q => h.run pins s σ H D I (f D σ H q)⟩
theorem PG.of {e : Expr} {t t' : TG} (h : PG X e t) (f : ∀ v σ H Q, t' v σ H Q → t v σ H Q) : PG X e t' := ⟨fun pins s σ H v u Q I r q => h.run pins s σ H v u Q I r (f v σ H Q q)⟩
theorem PGs.of {e : List Expr} {t t' : TGs} (h : PGs X e t) (f : ∀ v σ H Q, t' v σ H Q → t v σ H Q) : PGs X e t' := ⟨fun pins s σ H v u Q I r q => h.run pins s σ H v u Q I r (f v σ H Q q)⟩
theorem PI.of {tg e : Expr} {t t' : TI} (h : PI X tg e t) (f : ∀ σ H R, t' σ H R → t σ H R) : PI X tg e t' := ⟨fun pins s σ H R I q => h.run pins s σ H R I (f σ H R q)⟩

def isStar : Expr → Bool
  | .Starred .. => true
  | _ => false
/-- an optional part of a slice -/
def tOp_ (K : PySem.W.Frag) (f : En → Hh → R (Option Int)) : TO := fun σ H Q => ∃ ρ env h, HRel K ρ h H ∧ ERel K ρ H env σ ∧ Wd K ρ H (f env h) fun o _ ρ' H' => Q o H'
end

section
variable {X : Cx} {cf : CF} {a b c : Expr} {ia ib ic : E} {pos : Pos}
abbrev PEv (X : Cx) (cf : CF) (e : Expr) (i : E) : Prop := PE X e (tE X.K (evE cf i))
abbrev PTv (X : Cx) (cf : CF) (e : Expr) (i : E) : Prop := PT X e (tT X.K (evE cf i))
abbrev PAv (X : Cx) (cf : CF) (es : List Expr) (is : Es) : Prop := PA X es (tEs X.K (evEs cf is))
/-- the test of an expression that is its value's truth -/
theorem pt_plain {e : Expr} {i : E} (h : PEv X cf e i) (he : ∀ whole, isTrue e X.env whole = (do let v ← whole; standAt e.pos; holding [v] (truthy v))) : PTv X cf e i :=
  PT.of (pt_val h he) fun σ H Q ⟨ρ, env, h, hr, er, w⟩ => ⟨ρ, env, h, hr, er, w.imp fun d h' ρ' H' st hr' q v rv => by
    obtain ⟨b, rfl, q⟩ := q
    exact ⟨b, rv, q⟩⟩
theorem ev_bin {o : Op} (ha : PEv X cf a ia) (hb : PEv X cf b ib) : PEv X cf (.BinOp a (opr o) b pos) (.bin o ia ib) := by
  obtain ⟨r, ho, hs⟩ := op_sound (X := X) o
  refine PE.of (pe_op ho ha hb) fun σ H Q ⟨ρ, env, h, hr, er, w⟩ => ?_
  refine ⟨ρ, env, h, hr, er, (Wd.bind w).imp fun x h1 ρ1 H1 s1 r1 w1 v rv => ?_⟩
  refine ⟨ρ1, env, h1, r1, er.mono s1, (Wd.bind w1).imp fun y h2 ρ2 H2 s2 r2 w2 u ru => ?_⟩
  exact hs ρ2 h2 H2 x y v u Q r2 (Rep.mono s2 x rv) ru w2
theorem ev_neg (ha : PEv X cf a ia) : PEv X cf (.UnaryOp .USub a pos) (.neg ia) := by
  refine PE.of (pe_un un_neg ha) fun σ H Q ⟨ρ, env, h, hr, er, w⟩ => ?_
  refine ⟨ρ, env, h, hr, er, (Wd.bind w).imp fun x h1 ρ1 H1 s1 r1 w1 v rv => ?_⟩
  cases x with
  | int i => cases (show v = .int i from rv); exact ⟨i, rfl, w1.val r1 rfl⟩
  | _ => exact w1.bad.elim
theorem ev_not (ha : PEv X cf a ia) : PEv X cf (.UnaryOp .Not a pos) (.not ia) := by
  refine PE.of (pe_not ha) fun σ H Q ⟨ρ, env, h, hr, er, w⟩ => ?_
  refine ⟨ρ, env, h, hr, er, (Wd.bind w).imp fun x h1 ρ1 H1 s1 r1 w1 v rv => ?_⟩
  cases x with
  | bl i => cases (show v = .bl i from rv); exact ⟨i, rfl, w1.val r1 rfl⟩
  | _ => exact w1.bad.elim
theorem evt_not (ha : PTv X cf a ia) : PTv X cf (.UnaryOp .Not a pos) (.not ia) := by
  refine PT.of (pt_not ha) fun σ H Q ⟨ρ, env, h, hr, er, w⟩ => ?_
  refine ⟨ρ, env, h, hr, er, (Wd.bind w).imp fun x h1 ρ1 H1 s1 r1 w1 => ?_⟩
  cases x with
  | bl i =>
    obtain ⟨b, e, q⟩ := w1.ok ρ1 H1 .refl r1
    cases e
    exact ⟨i, rfl, q⟩
  | _ => exact w1.bad.elim
theorem b01_val {K : PySem.W.Frag} {ρ : List Addr} {H : Hp} {h : Hh} {o : Option Bool} {P : D → Hh → List Addr → Hp → Prop} (w : Wd K ρ H (b01 o h) P) (hr : HRel K ρ h H) : ∃ b, o = some b ∧ P (.bl b) h ρ H := by
  cases o with
  | some b => exact ⟨b, rfl, w.ok ρ H .refl hr⟩
  | none => exact w.bad.elim
theorem ev_cmp {o : Cm} (hu : X.A.units + 65 < cLine) (ha : PEv X cf a ia) (hb : PEv X cf b ib) (hm : behindInMarks (cmo o) b = false) : PEv X cf (.Compare a [cmo o] [b] pos) (.cmp o ia ib) := by
  obtain ⟨r, ho, hs⟩ := cm_sound (X := X) hu o
  refine PE.of (pe_cmpR ho ha hb hm) fun σ H Q ⟨ρ, env, h, hr, er, w⟩ => ?_
  refine ⟨ρ, env, h, hr, er, (Wd.bind w).imp fun x h1 ρ1 H1 s1 r1 w1 v rv => ?_⟩
  refine ⟨ρ1, env, h1, r1, er.mono s1, (Wd.bind w1).imp fun y h2 ρ2 H2 s2 r2 w2 u ru => ?_⟩
  obtain ⟨b, e, q⟩ := b01_val w2 r2
  exact hs ρ2 h2 H2 x y v u b Q r2 (Rep.mono s2 x rv) ru e (q _ rfl)
theorem evt_cmp {o : Cm} (hu : X.A.units + 65 < cLine) (ha : PEv X cf a ia) (hb : PEv X cf b ib) (hm : behindInMarks (cmo o) b = false) : PTv X cf (.Compare a [cmo o] [b] pos) (.cmp o ia ib) := by
  obtain ⟨r, ho, hs⟩ := cm_sound (X := X) hu o
  refine PT.of (pt_cmpR ho ha hb hm) fun σ H Q ⟨ρ, env, h, hr, er, w⟩ => ?_
  refine ⟨ρ, env, h, hr, er, (Wd.bind w).imp fun x h1 ρ1 H1 s1 r1 w1 v rv => ?_⟩
  refine ⟨ρ1, env, h1, r1, er.mono s1, (Wd.bind w1).imp fun y h2 ρ2 H2 s2 r2 w2 u ru => ?_⟩
  obtain ⟨b, e, k, ek, q⟩ := b01_val w2 r2
  cases ek
  exact hs ρ2 h2 H2 x y v u b _ r2 (Rep.mono s2 x rv) ru e ⟨b, rfl, q⟩
theorem marks2 {o o' : CmpOp} {b c : Expr} (hm : behindInMarks o' c = false) : lastMarks [o, o'] [b, c] = false := hm
theorem ev_cmp2 {o o2 : Cm} (hu : X.A.units + 65 < cLine) (ha : PEv X cf a ia) (hb : PEv X cf b ib) (hc : PEv X cf c ic) (hm : behindInMarks (cmo o2) c = false) : PEv X cf (.Compare a [cmo o, cmo o2] [b, c] pos) (.cmp2 o o2 ia ib ic) := by
  obtain ⟨r, ho, hs⟩ := cm_sound (X := X) hu o
  obtain ⟨r', ho', hs'⟩ := cm_sound (X := X) hu o2
  refine PE.of (pe_chain ho ho' ha hb hc (marks2 hm)) fun σ H Q ⟨ρ, env, h, hr, er, w⟩ => ?_
  refine ⟨ρ, env, h, hr, er, (Wd.bind w).imp fun x h1 ρ1 H1 s1 r1 w1 v rv => ?_⟩
  refine ⟨ρ1, env, h1, r1, er.mono s1, (Wd.bind w1).imp fun y h2 ρ2 H2 s2 r2 w2 u ru => ?_⟩
  have w2 : Wd X.K ρ2 H2 (match cmpop h2 o x y with
    | some true => (evE cf ic env h2).bind fun z h3 => b01 (cmpop h3 o2 y z) h3
    | some false => .ok (.bl false) h2
    | none => .bad) (QP X.K Q) := w2
  cases e : cmpop h2 o x y with
  | none => rw [e] at w2; exact w2.bad.elim
  | some b =>
    rw [e] at w2
    refine hs ρ2 h2 H2 x y v u b _ r2 (Rep.mono s2 x rv) ru e ⟨b, rfl, ?_⟩
    cases b with
    | false =>
      rw [if_neg Bool.false_ne_true]
      exact Wd.val w2 r2 rfl
    | true =>
      rw [if_pos rfl]
      refine ⟨ρ2, env, h2, r2, (er.mono s1).mono s2, (Wd.bind w2).imp fun z h3 ρ3 H3 s3 r3 w3 t rt => ?_⟩
      obtain ⟨b, e, q⟩ := b01_val w3 r3
      exact hs' ρ3 h3 H3 y z u t b Q r3 (Rep.mono s3 y ru) rt e (q _ rfl)
theorem evt_cmp2 {o o2 : Cm} (hu : X.A.units + 65 < cLine) (ha : PEv X cf a ia) (hb : PEv X cf b ib) (hc : PEv X cf c ic) (hm : behindInMarks (cmo o2) c = false) : PTv X cf (.Compare a [cmo o, cmo o2] [b, c] pos) (.cmp2 o o2 ia ib ic) := by
  obtain ⟨r, ho, hs⟩ := cm_sound (X := X) hu o
  obtain ⟨r', ho', hs'⟩ := cm_sound (X := X) hu o2
  refine PT.of (pt_chain ho ho' ha hb hc (marks2 hm)) fun σ H Q ⟨ρ, env, h, hr, er, w⟩ => ?_
  refine ⟨ρ, env, h, hr, er, (Wd.bind w).imp fun x h1 ρ1 H1 s1 r1 w1 v rv => ?_⟩
  refine ⟨ρ1, env, h1, r1, er.mono s1, (Wd.bind w1).imp fun y h2 ρ2 H2 s2 r2 w2 u ru => ?_⟩
  have w2 : Wd X.K ρ2 H2 (match cmpop h2 o x y with
    | some true => (evE cf ic env h2).bind fun z h3 => b01 (cmpop h3 o2 y z) h3
    | some false => .ok (.bl false) h2
    | none => .bad) (fun d _ ρ' H' => ∃ b, d = .bl b ∧ Q b H') := w2
  cases e : cmpop h2 o x y with
  | none => rw [e] at w2; exact w2.bad.elim
  | some b =>
    rw [e] at w2
    refine hs ρ2 h2 H2 x y v u b _ r2 (Rep.mono s2 x rv) ru e ⟨b, rfl, ?_⟩
    cases b with
    | false =>
      rw [if_neg Bool.false_ne_true]
      obtain ⟨b, e, q⟩ := Wd.ok w2 ρ2 H2 .refl r2
      cases e
      exact ⟨false, rfl, q⟩
    | true =>
      rw [if_pos rfl]
      refine ⟨ρ2, env, h2, r2, (er.mono s1).mono s2, (Wd.bind w2).imp fun z h3 ρ3 H3 s3 r3 w3 t rt => ?_⟩
      obtain ⟨b, e, k, ek, q⟩ := b01_val w3 r3
      cases ek
      exact hs' ρ3 h3 H3 y z u t b _ r3 (Rep.mono s3 y ru) rt e ⟨b, rfl, q⟩
theorem ev_and {rest : List Expr} (ha : PEv X cf a ia) (hb : PEv X cf (.BoolOp .And (b :: rest) pos) ib) : PEv X cf (.BoolOp .And (a :: b :: rest) pos) (.and ia ib) := by
  refine PE.of (pe_and ha hb) fun σ H Q ⟨ρ, env, h, hr, er, w⟩ => ?_
  refine ⟨ρ, env, h, hr, er, (Wd.bind w).imp fun x h1 ρ1 H1 s1 r1 w1 v rv => ?_⟩
  cases x with
  | bl i =>
    cases (show v = .bl i from rv)
    refine ⟨i, rfl, ?_⟩
    cases i with
    | true => rw [if_pos rfl]; exact ⟨ρ1, env, h1, r1, er.mono s1, w1⟩
    | false => rw [if_neg Bool.false_ne_true]; exact w1.val r1 rfl
  | _ => exact w1.bad.elim
theorem ev_or {rest : List Expr} (ha : PEv X cf a ia) (hb : PEv X cf (.BoolOp .Or (b :: rest) pos) ib) : PEv X cf (.BoolOp .Or (a :: b :: rest) pos) (.or ia ib) := by
  refine PE.of (pe_or ha hb) fun σ H Q ⟨ρ, env, h, hr, er, w⟩ => ?_
  refine ⟨ρ, env, h, hr, er, (Wd.bind w).imp fun x h1 ρ1 H1 s1 r1 w1 v rv => ?_⟩
  cases x with
  | bl i =>
    cases (show v = .bl i from rv)
    refine ⟨i, rfl, ?_⟩
    cases i with
    | true => rw [if_pos rfl]; exact w1.val r1 rfl
    | false => rw [if_neg Bool.false_ne_true]; exact ⟨ρ1, env, h1, r1, er.mono s1, w1⟩
  | _ => exact w1.bad.elim
abbrev PWv (X : Cx) (cf : CF) (e : Expr) (i : E) : Prop := PW X e (tT X.K (evE cf i))
theorem evw_and {rest : List Expr} (ha : PTv X cf a ia) (hb : PWv X cf (.BoolOp .And (b :: rest) pos) ib) : PWv X cf (.BoolOp .And (a :: b :: rest) pos) (.and ia ib) := by
  refine PW.of (pw_and ha hb) fun σ H Q ⟨ρ, env, h, hr, er, w⟩ => ?_
  refine ⟨ρ, env, h, hr, er, (Wd.bind w).imp fun x h1 ρ1 H1 s1 r1 w1 => ?_⟩
  cases x with
  | bl i =>
    refine ⟨i, rfl, ?_⟩
    cases i with
    | true => rw [if_pos rfl]; exact ⟨ρ1, env, h1, r1, er.mono s1, w1⟩
    | false =>
      rw [if_neg Bool.false_ne_true]
      obtain ⟨b, e, q⟩ := Wd.ok w1 ρ1 H1 .refl r1
      cases e
      exact q
  | _ => exact w1.bad.elim
theorem evw_or {rest : List Expr} (ha : PTv X cf a ia) (hb : PWv X cf (.BoolOp .Or (b :: rest) pos) ib) : PWv X cf (.BoolOp .Or (a :: b :: rest) pos) (.or ia ib) := by
  refine PW.of (pw_or ha hb) fun σ H Q ⟨ρ, env, h, hr, er, w⟩ => ?_
  refine ⟨ρ, env, h, hr, er, (Wd.bind w).imp fun x h1 ρ1 H1 s1 r1 w1 => ?_⟩
  cases x with
  | bl i =>
    refine ⟨i, rfl, ?_⟩
    cases i with
    | false => rw [if_neg Bool.false_ne_true]; exact ⟨ρ1, env, h1, r1, er.mono s1, w1⟩
    | true =>
      rw [if_pos rfl]
      obtain ⟨b, e, q⟩ := Wd.ok w1 ρ1 H1 .refl r1
      cases e
      exact q
  | _ => exact w1.bad.elim
theorem ev_ife (hc : PTv X cf c ic) (ha : PEv X cf a ia) (hb : PEv X cf b ib) : PEv X cf (.IfExp c a b pos) (.ife ic ia ib) := by
  refine PE.of (pe_ifExp hc ha hb) fun σ H Q ⟨ρ, env, h, hr, er, w⟩ => ?_
  refine ⟨ρ, env, h, hr, er, (Wd.bind w).imp fun x h1 ρ1 H1 s1 r1 w1 => ?_⟩
  cases x with
  | bl i =>
    refine ⟨i, rfl, ?_⟩
    cases i with
    | true => rw [if_pos rfl]; exact ⟨ρ1, env, h1, r1, er.mono s1, w1⟩
    | false => rw [if_neg Bool.false_ne_true]; exact ⟨ρ1, env, h1, r1, er.mono s1, w1⟩
  | _ => exact w1.bad.elim
theorem pt_ifExp {tA tB' tC' : TT} (hc : PT X c tC') (ha : PT X a tA) (hb : PT X b tB') : PT X (.IfExp c a b pos) (fun σ H Q => tC' σ H fun k H1 => if k = true then tA σ H1 Q else tB' σ H1 Q) := by
  refine ⟨fun pins s σ H Q I h => ?_⟩
  show wpAny _ _ (do if ← isTrue c X.env (eval c X.env) then isTrue a X.env (eval a X.env) else isTrue b X.env (eval b X.env)) _ _ s
  refine wpAny_bind (thn (hc.run pins s σ H _ I h) fun k s1 ⟨H1, I1, q⟩ => ?_)
  cases k with
  | true => exact ha.run pins s1 σ H1 Q I1 q
  | false => exact hb.run pins s1 σ H1 Q I1 q
theorem evt_ife (hc : PTv X cf c ic) (ha : PTv X cf a ia) (hb : PTv X cf b ib) : PTv X cf (.IfExp c a b pos) (.ife ic ia ib) := by
  refine PT.of (pt_ifExp hc ha hb) fun σ H Q ⟨ρ, env, h, hr, er, w⟩ => ?_
  refine ⟨ρ, env, h, hr, er, (Wd.bind w).imp fun x h1 ρ1 H1 s1 r1 w1 => ?_⟩
  cases x with
  | bl i =>
    refine ⟨i, rfl, ?_⟩
    cases i with
    | true => rw [if_pos rfl]; exact ⟨ρ1, env, h1, r1, er.mono s1, w1⟩
    | false => rw [if_neg Bool.false_ne_true]; exact ⟨ρ1, env, h1, r1, er.mono s1, w1⟩
  | _ => exact w1.bad.elim
theorem ev_lit {d : D} {v : V} (h : PE X a (tC v)) (r : ∀ ρ H, Rep X.K ρ H d v) : PEv X cf a (.lit d) :=
  PE.of h fun σ H Q ⟨ρ, env, h, hr, er, w⟩ => Wd.val w hr (r ρ H)
theorem ev_var {i : Nat} {x : Str} (hN : X.N[i]? = some x) (hv : Vis X.env.scope x) (hd : (x == ("__debug__" : Str)) = false) (hcd : (x == ("__classdict__" : Str)) = false) : PEv X cf (.Name x pos) (.var i) := by
  refine PE.of (pe_var hN hv hd hcd) fun σ H Q ⟨ρ, env, h, hr, er, w⟩ => ?_
  have w : Wd X.K ρ H (getV env i h) (QP X.K Q) := w
  unfold getV at w
  split at w
  · rename_i d e
    obtain ⟨v, ev, rv⟩ := er.2 i d e
    exact ⟨v, ev, w.val hr rv⟩
  · exact w.bad.elim
theorem star_cons {e : Expr} {es : List Expr} {env : Env} (h : isStar e = false) : starEach (e :: es) env = (false, eval e env) :: starEach es env := by
  cases e <;> first | rfl | cases h
theorem ev_nil : PAv X cf [] .nil := PA.of pa_nil fun σ H Q ⟨ρ, env, h, hr, er, w⟩ => Wd.ok w ρ H .refl hr [] rfl
theorem ev_cons {es : List Expr} {is : Es} (ha : PEv X cf a ia) (hs : PAv X cf es is) (h : isStar a = false) : PAv X cf (a :: es) (.cons ia is) := by
  refine PA.of (pa_cons ha hs (star_cons h)) fun σ H Q ⟨ρ, env, h, hr, er, w⟩ => ?_
  refine ⟨ρ, env, h, hr, er, (Wd.bind w).imp fun x h1 ρ1 H1 s1 r1 w1 v rv => ?_⟩
  refine ⟨ρ1, env, h1, r1, er.mono s1, (Wd.bind w1).imp fun xs h2 ρ2 H2 s2 r2 w2 vs rs => ?_⟩
  exact Wd.ok w2 ρ2 H2 .refl r2 _ (.cons (Rep.mono s2 x rv) rs)
theorem ev_tup {es : List Expr} {is : Es} {k : Nat} (ha : PAv X cf es is) : PEv X cf (.Tuple es k pos) (.tup is) := by
  refine PE.of (pe_tup ha) fun σ H Q ⟨ρ, env, h, hr, er, w⟩ => ?_
  refine ⟨ρ, env, h, hr, er, (Wd.bind w).imp fun xs h1 ρ1 H1 s1 r1 w1 vs rs => ?_⟩
  split at w1
  · rename_i c
    exact ⟨by rw [← rs.length]; exact c, w1.tup r1 rs⟩
  · exact w1.bad.elim
theorem ev_lst {es : List Expr} {is : Es} (ha : PAv X cf es is) : PEv X cf (.List es pos) (.lst is) := by
  refine PE.of (pe_lst ha) fun σ H Q ⟨ρ, env, h, hr, er, w⟩ => ?_
  refine ⟨ρ, env, h, hr, er, (Wd.bind w).imp fun xs h1 ρ1 H1 s1 r1 w1 vs rs => ?_⟩
  split at w1
  · rename_i c
    exact ⟨by rw [← rs.length]; exact c, w1.lst r1 rs⟩
  · exact w1.bad.elim

/-! ### subscripts -/
theorem atI_rep {K : PySem.W.Frag} {ρ : List Addr} {H : Hp} {xs : List D} {vs : List V} {i : Int} {d : D} (r : Reps K ρ H xs vs) (e : atI xs i = some d) : ∃ v, atI vs i = some v ∧ Rep K ρ H d v := by
  unfold atI at e ⊢
  rw [← r.length]
  cases q : ixN xs.length i with
  | none => rw [q] at e; cases e
  | some j =>
    rw [q] at e
    exact r.get e
theorem ix_val {K : PySem.W.Frag} {ρ : List Addr} {h : Hh} {H : Hp} {x y d : D} {v u : V} {Q : VK} (hr : HRel K ρ h H) (rv : Rep K ρ H x v) (ru : Rep K ρ H y u) (e : ixop h x y = some d) (q : ∀ t, Rep K ρ H d t → Q t H) : rIx K v u H Q := by
  unfold ixop at e
  cases y with
  | int i =>
    cases (show u = .int i from ru)
    cases x with
    | tup xs =>
      obtain ⟨a, vs, rfl, sa, ra⟩ := rv
      obtain ⟨t, e1, rt⟩ := atI_rep ra (show atI xs i = some d from e)
      exact .inr (.inl ⟨a, vs, i, t, rfl, rfl, sa, e1, q t rt⟩)
    | rol xs =>
      obtain ⟨a, vs, rfl, sa, ra⟩ := rv
      obtain ⟨t, e1, rt⟩ := atI_rep ra (show atI xs i = some d from e)
      exact .inl ⟨a, vs, i, t, rfl, rfl, sa.sqL, e1, q t rt⟩
    | obj n =>
      have e : (match h[n]? with
        | some (.lst xs) => some xs
        | none => none).bind (fun xs => atI xs i) = some d := e
      split at e
      · rename_i xs q1
        obtain ⟨a, vs, rfl, _, sa, ra⟩ := Rep.seq hr rv q1
        obtain ⟨t, e1, rt⟩ := atI_rep ra (show atI xs i = some d from e)
        exact .inl ⟨a, vs, i, t, rfl, rfl, sa, e1, q t rt⟩
      · cases e
    | _ => cases e
  | _ => cases e
theorem ev_idx (ha : PEv X cf a ia) (hb : PEv X cf b ib) (hp : PlainIx b) : PEv X cf (.Subscript a b pos) (.idx ia ib) := by
  refine PE.of (pe_ix ix_seq ha hb hp) fun σ H Q ⟨ρ, env, h, hr, er, w⟩ => ?_
  refine ⟨ρ, env, h, hr, er, (Wd.bind w).imp fun x h1 ρ1 H1 s1 r1 w1 v rv => ?_⟩
  refine ⟨ρ1, env, h1, r1, er.mono s1, (Wd.bind w1).imp fun y h2 ρ2 H2 s2 r2 w2 u ru => ?_⟩
  split at w2
  · rename_i d e
    exact ix_val r2 (Rep.mono s2 x rv) ru e fun t rt => w2.val r2 rt
  · exact w2.bad.elim
theorem evo_no : PO X none (tOp_ X.K (evEo cf .no)) := PO.of po_none fun σ H Q ⟨ρ, env, h, hr, er, w⟩ => Wd.ok w ρ H .refl hr
theorem evo_so (ha : PEv X cf a ia) : PO X (some a) (tOp_ X.K (evEo cf (.so ia))) := by
  refine PO.of (po_some ha) fun σ H Q ⟨ρ, env, h, hr, er, w⟩ => ?_
  refine ⟨ρ, env, h, hr, er, (Wd.bind w).imp fun x h1 ρ1 H1 s1 r1 w1 v rv => ?_⟩
  cases x with
  | int i => cases (show v = .int i from rv); exact ⟨i, rfl, w1.ok ρ1 H1 .refl r1⟩
  | _ => exact w1.bad.elim
theorem cut_rep {K : PySem.W.Frag} {ρ : List Addr} {H : Hp} {xs : List D} {vs : List V} (r : Reps K ρ H xs vs) (lo hi : Option Int) : Reps K ρ H (cutD xs lo hi) (cutV vs lo hi) := by
  unfold cutD cutV
  rw [← r.length]
  exact (r.drop _).take _
theorem cut_all {xs : List D} {lo hi : Option Int} (h : HT.sIx xs.length 0 lo = 0 ∧ HT.sIx xs.length xs.length hi = xs.length) : cutD xs lo hi = xs := by
  unfold cutD
  rw [h.1, h.2]
  simp
theorem ev_slc {lo hi : Option Expr} {il ih : Eo} {p2 : Pos} (ha : PEv X cf a ia) (hl : PO X lo (tOp_ X.K (evEo cf il))) (hh : PO X hi (tOp_ X.K (evEo cf ih))) : PEv X cf (.Subscript a (.Slice lo hi none p2) pos) (.slc ia il ih) := by
  refine PE.of (pe_slice (sl_list.or sl_tupA) ha hl hh) fun σ H Q ⟨ρ, env, h, hr, er, w⟩ => ?_
  refine ⟨ρ, env, h, hr, er, (Wd.bind w).imp fun x h1 ρ1 H1 s1 r1 w1 v rv => ?_⟩
  refine ⟨ρ1, env, h1, r1, er.mono s1, (Wd.bind w1).imp fun y h2 ρ2 H2 s2 r2 w2 => ?_⟩
  refine ⟨ρ2, env, h2, r2, (er.mono s1).mono s2, (Wd.bind w2).imp fun z h3 ρ3 H3 s3 r3 w3 => ?_⟩
  have rv := Rep.mono s3 x (Rep.mono s2 x rv)
  cases x with
  | tup xs =>
    obtain ⟨a, vs, rfl, sa, ra⟩ := rv
    refine .inr ⟨a, vs, rfl, sa, fun c => ?_, fun _ => Wd.tup w3 r3 (cut_rep ra y z)⟩
    rw [← ra.length] at c
    have w3 : Wd X.K ρ3 H3 (.ok (.tup (cutD xs y z)) h3) (QP X.K Q) := w3
    rw [cut_all c] at w3
    exact w3.val r3 ⟨a, vs, rfl, sa, ra⟩
  | rol xs =>
    obtain ⟨a, vs, rfl, sa, ra⟩ := rv
    exact .inl ⟨a, vs, rfl, sa.sqL, Wd.lst w3 r3 (cut_rep ra y z)⟩
  | obj n =>
    simp only [slop] at w3
    split at w3
    · rename_i xs e
      obtain ⟨a, vs, rfl, _, sa, ra⟩ := Rep.seq r3 rv e
      exact .inl ⟨a, vs, rfl, sa, w3.lst r3 (cut_rep ra y z)⟩
    · exact w3.bad.elim
  | _ => exact w3.bad.elim

/-! ### built-ins called -/
theorem ev_biB {b : Bi} {id : String} {x : Str} {p : Pos} {es : List Expr} {is : Es} (hb : BiOk X b) (hf : fvB b = .builtin id) (hg : Gl X x) (hm : X.mg x = none) (hv : bootBuiltins x = some (.builtin id)) (ha : PAv X cf (a :: es) is)
    (hn : x ≠ "__name__") (hd : (x == ("__debug__" : Str)) = false) (hs : isStar a = false) (hpl : (backTo pos (starEach es X.env)).any (·.1) = false) : PEv X cf (.Call (.Name x p) (a :: es) [] pos) (.bi b is) := by
  obtain ⟨r, hc, hs', _⟩ := hb
  rw [hf] at hc
  refine PE.of (pe_callB hc hg hm hv ha hn hd (star_cons hs) hpl) fun σ H Q ⟨ρ, env, h, hr, er, w⟩ => ?_
  exact ⟨ρ, env, h, hr, er, (Wd.bind w).imp fun xs h1 ρ1 H1 s1 r1 w1 vs rs => hs' ρ1 h1 H1 xs vs Q r1 rs w1⟩
theorem ev_biT {b : Bi} {id : String} {x : Str} {p : Pos} {es : List Expr} {is : Es} (hb : BiOk X b) (hf : fvB b = .type id) (hg : Gl X x) (hm : X.mg x = none) (hv : bootBuiltins x = some (.type id)) (ha : PAv X cf (a :: es) is)
    (hn : x ≠ "__name__") (hd : (x == ("__debug__" : Str)) = false) (hs : isStar a = false) (hpl : (backTo pos (starEach es X.env)).any (·.1) = false) : PEv X cf (.Call (.Name x p) (a :: es) [] pos) (.bi b is) := by
  obtain ⟨r, hc, hs', _⟩ := hb
  rw [hf] at hc
  refine PE.of (pe_callTy hc hg hm hv ha hn hd (star_cons hs) hpl) fun σ H Q ⟨ρ, env, h, hr, er, w⟩ => ?_
  exact ⟨ρ, env, h, hr, er, (Wd.bind w).imp fun xs h1 ρ1 H1 s1 r1 w1 vs rs => hs' ρ1 h1 H1 xs vs Q r1 rs w1⟩
end
end Ev

set_option Elab.async false
set_option linter.all false
set_option maxRecDepth 100000
set_option maxHeartbeats 4000000
namespace PySem
open AutoSeq1 (wpAny_loadPart')
theorem ev_meets_enumT (l : Addr) (items : Array Value) (o : Obj) (hc : o.cls = .type "tuple") (n : Nat) (hd : o.data = .seq items n) :
    Meets (Builtin.«enumerate.__new__» ⟨[.type "enumerate", .ref l], []⟩) (fun _ R s => s.heap.get? l = some o ∧
      R (.ok (.ret (.ref (s.heap.push { cls := .type "tuple_iterator", data := .fields #[.ref l, .int 0 0] }).objs.size)))
        { s with heap := (s.heap.push { cls := .type "tuple_iterator", data := .fields #[.ref l, .int 0 0] }).push { cls := .type "enumerate", data := .fields #[.none, .bool false, .ref s.heap.objs.size, rawInt 0, .none, .none] } }) :=
  .of_wp fun prog w A R s h => by
    obtain ⟨hp, g, d, tk, os⟩ := s
    obtain ⟨hl, h⟩ := h
    have hsub := sub_enumerate
    have hT : Heap.IsTuple (Shared.heap ⟨hp, g, d, tk, os⟩) l items := ⟨_, hl, hc, n, hd⟩
    obtain ⟨c, dd, dt, sl⟩ := o
    replace hc : c = .type "tuple" := hc
    replace hd : dt = .seq items n := hd
    subst hc hd
    wp_walk using wpAny_loadPart' hl
    refine wpAny_stack_any fun st => wpAny_pure ?_
    split
    · rename_i c _ _ _ _ _
      cases (c == Value.type "enumerate")
      · wp_walk using wpAny_loadPart' hl, wpAny_pyIter_tuple hT
        exact ⟨_, rfl, h⟩
      · wp_walk using wpAny_loadPart' hl, wpAny_pyIter_tuple hT
        exact ⟨_, rfl, h⟩
    · wp_walk using wpAny_loadPart' hl, wpAny_pyIter_tuple hT
      exact ⟨_, rfl, h⟩
section
variable {prog : Program} {w : World} {A : Around} {E : Value → Shared → Prop} {s : Shared}
theorem ev_call_enumT {l : Addr} {items : Array Value} {Q : Value → Shared → Prop} (hL : s.heap.IsTuple l items)
    (h : ∀ h', IsEnum h' (s.heap.objs.size + 1) s.heap.objs.size 0 .none → h'.IsTupleIter s.heap.objs.size l 0 →
      (∀ b o, s.heap.get? b = some o → h'.get? b = some o) → Q (.ref (s.heap.objs.size + 1)) { s with heap := h' }) :
    wpAny (model prog w) A (call (.type "enumerate") [.ref l]) Q E s := by
  obtain ⟨o, hl, hc, n, hd⟩ := hL
  refine callType_new F.called_enumerate (by decide) (F.typeCall_enumerate_1 _) (F.newCall_enumerate_1 _) (fun obj => F.args_object_init_2 obj _) F.entry_enumerate_new
    (ev_meets_enumT l items o hc n hd) ⟨hl, ?_⟩
  have hz : (s.heap.push { cls := .type "tuple_iterator", data := .fields #[.ref l, .int 0 0] }).objs.size = s.heap.objs.size + 1 := Heap.size_push ..
  show _ ∧ _
  rw [hz]
  have he : IsEnum ((s.heap.push { cls := .type "tuple_iterator", data := .fields #[.ref l, .int 0 0] }).push
      { cls := .type "enumerate", data := .fields #[.none, .bool false, .ref s.heap.objs.size, rawInt 0, .none, .none] }) (s.heap.objs.size + 1) s.heap.objs.size 0 .none := by
    have q := Heap.get?_push_size (s.heap.push { cls := .type "tuple_iterator", data := .fields #[.ref l, .int 0 0] })
      (o := { cls := .type "enumerate", data := .fields #[.none, .bool false, .ref s.heap.objs.size, rawInt 0, .none, .none] }) rfl
    rw [hz] at q
    exact q
  refine ⟨⟨_, he, rfl⟩, h _ he ⟨_, Heap.get?_push_of_some _ (Heap.get?_push_size _ rfl), rfl, rfl⟩ fun b o x => Heap.get?_push_of_some _ (Heap.get?_push_of_some _ x)⟩
end
end PySem
namespace Ev
open PySem PySem.Spec PyProof.Rows L2
theorem ev_enumT_end {prog : Program} {w : World} {A : Around} {E : Value → Shared → Prop} {s : Shared} {e it t : Addr} {i : Nat} {n : Int} {items : Array Value} {old : Value} {Q : Option Value → Shared → Prop} (hh : A.handled = none)
    (he : IsEnum s.heap e it n old) (hit : s.heap.IsTupleIter it t i) (ht : s.heap.IsTuple t items) (hi : items.size ≤ i)
    (hQ : ∀ h', Heap.ExtBut it s.heap h' → Q none { s with heap := h' }) : wpAny (model prog w) A (pyNext (.ref e)) Q E s := by
  have hT : s.TypeIs (.ref e) "enumerate" := ⟨_, he, rfl⟩
  unfold pyNext
  refine wpAny_bind (wpAny_attempt (wpAny_callSpecial?_slot (name := Str.ofString "__next__") hT F.slot_enumerate_next
    (wpAny_call_entry F.slot_enumerate_next hT F.entry_enumerate_next ?_ (F.args_enumerate_next_1 _))))
  show wpAny _ _ (field (.ref e) 2 >>= _) _ _ _
  refine wpAny_bind (wpAny_field he rfl (x := .ref it) rfl ?_)
  refine wpAny_bind (wpAny_nextOf_tuple_end (A := A.in1) hh hit ht (by simp [hi]) fun h' x he' hx' => ?_)
  obtain ⟨o, ho, hc⟩ := hx'
  refine wpAny_bind (wpAny_isInstance (T := "StopIteration") (b := true) ⟨o, ho, hc⟩ isSubtype_stop ?_)
  exact wpAny_pure (hQ _ he')
/-- enumerate(a tuple) -/
def IteT (K : PySem.W.Frag) (a : Addr) : L2.It :=
  ⟨fun i H => ∃ (xs : List V) (x : V), SqT K H a xs ∧ xs[i]? = some x, fun i H v H' => ∃ T x, v = .ref T ∧ H T = none ∧ H' = upd H T (.tup [.int (i : Nat), x]) ∧ ∀ xs, SqT K H a xs → xs[i]? = some x, fun i H => ∃ xs : List V, SqT K H a xs ∧ xs.length ≤ i⟩
theorem turn_enumT {P : Program} {w : World} {K : PySem.W.Frag} {elts : List Expr} {kk : Nat} {tpos : Pos} (a e it : Addr) :
    Turn P w K (.Tuple elts kk tpos) (IteT K a) [e, it] e (fun i h => (∃ old, IsEnum h e it ((i : Nat) : Int) old) ∧ h.IsTupleIter it a i ∧ e ≠ it ∧ a ≠ e ∧ a ≠ it) where
  mem := by simp
  obj := fun i h st b hb => by
    obtain ⟨⟨old, he⟩, ⟨o, ho, hc, hd⟩, _⟩ := st
    have e' : b = e ∨ b = it := by simpa using hb
    rcases e' with z | z
    · rw [z]; exact ⟨_, he, fun v q => nomatch q⟩
    · rw [z]; exact ⟨o, ho, fun v q => by rw [hd] at q; cases q⟩
  keep := fun i h h' st k => let ⟨⟨old, he⟩, hi, hne⟩ := st; ⟨⟨old, k e (by simp) _ he⟩, hi.at fun o q => k it (by simp) o q, hne⟩
  item := by
    intro X hP hw hK hc i pins s σ H E I hf st hg
    subst hP hw hK
    obtain ⟨⟨old, he⟩, hit, hne, hae, hai⟩ := st
    obtain ⟨xs, x, hq, hx⟩ := hg
    obtain ⟨its, rv, p, hz⟩ := I.tuple hq
    obtain ⟨u, hu, ru⟩ := rv.get hx
    have hel : e < s.heap.objs.size := Heap.lt_size he
    have hil : it < s.heap.objs.size := by obtain ⟨_, q, _⟩ := hit; exact Heap.lt_size q
    have hlt : i < its.toArray.size := by
      have := (List.getElem?_eq_some_iff.mp hu).1
      simpa using this
    refine wpAny_pyNext_enum_itemD (Draws.tuple (A := X.A.in1) (I.ok.hd hc) it a hai its.toArray) he ⟨hit, p⟩ hlt hne (by simp [hne, Ne.symm hae]) fun x' h' tk hP' ho hst' hT hsz hk => ?_
    have ex : x' = u := by
      have h1 : its[i]? = some x' := by simpa using hP'
      rw [hu] at h1
      exact (Option.some.inj h1).symm
    subst ex
    have hit' := hst'.1
    refine ⟨_, rfl, wpAny_letOwnedTupleGo_enum (s := { s with heap := h', toks := tk + 1 }) ho fun h'' he' sb => ?_⟩
    have hT2 : h''.get? s.heap.objs.size = some { cls := .type "tuple", data := .seq #[.int i tk, x'] } := (sb.2 _ (Nat.ne_of_gt hel)).trans hT
    have new : ObjOk X.prog X.w (upd H s.heap.objs.size (.tup [.int (i : Nat), x])) h'' s.heap.objs.size (.tup [.int (i : Nat), x]) :=
      ⟨by show 2 ≤ sizeLine; decide, [.int i tk, x'], .cons ⟨_, rfl⟩ (.cons ru .nil), ⟨_, hT2, rfl, _, rfl⟩⟩
    have I1 : Inv X pins σ (upd H s.heap.objs.size (.tup [.int (i : Nat), x])) { s with heap := h'', toks := tk + 1 } :=
      I.turnedNew (ch := [e, it]) (fun b ob hb q => (sb.2 b (fun z => hb (by simp [z]))).trans (hk b ob (fun z => hb (by simp [z])) (fun z => hb (by simp [z])) q)) hf (Nat.le_refl _) new
    refine ⟨.ref s.heap.objs.size, _, I1, rfl, ⟨_, x, rfl, I.hok.fresh (Nat.le_refl _), rfl, fun ys hy => by rw [I.tuple_inj hy hq]; exact hx⟩, ⟨⟨x', ?_⟩, hit'.at fun o q => (sb.2 it (Ne.symm hne)).trans q, hne, hae, hai⟩, fun b hb => ?_⟩
    · have e1 : ((i + 1 : Nat) : Int) = (i : Int) + 1 := by omega
      rw [e1]; exact he'
    · have hb' : b < s.heap.objs.size := by
        have e' : b = e ∨ b = it := by simpa using hb
        rcases e' with z | z
        · rw [z]; exact hel
        · rw [z]; exact hil
      rw [upd_ne (Nat.ne_of_lt hb')]
      exact (hf b hb).1
  done := by
    intro X hP hw hK hc i pins s σ H E I hf st hg
    subst hP hw hK
    obtain ⟨⟨old, he⟩, hit, hne, hae, hai⟩ := st
    obtain ⟨xs, hq, hx⟩ := hg
    obtain ⟨its, rv, p, hz⟩ := I.tuple hq
    obtain ⟨f0, f1, f2, f3, f4, f5⟩ := hf it (by simp)
    have hl := rv.length
    have hh := I.ok.hd hc
    have hit0 := hit
    obtain ⟨o, ho, hcl, hd⟩ := hit
    refine ev_enumT_end hh he hit0 p (by simp; omega) fun h' eb => ⟨rfl, I.turned (t' := s.toks) (fun b o hb q => eb b o hb q) f0 f1 f3 f4 f5⟩
  self := fun A i s Q E st h => let ⟨⟨_, he⟩, _⟩ := st; wpAny_pyIter_enum he h
def iEnumT (K : PySem.W.Frag) (ta : TA) : TI := fun σ H R => ta σ H fun vs H1 => ∃ a xs, vs = [.ref a] ∧ SqT K H1 a xs ∧ R (IteT K a) H1
theorem pi_enumT {X : Cx} {e : Expr} {ta : TA} {p pos tpos : Pos} {elts : List Expr} {kk : Nat} (hg : Gl X "enumerate") (hm : X.mg "enumerate" = none) (ha : PA X [e] ta) (hs : starEach [e] X.env = [(false, eval e X.env)]) :
    PI X (.Tuple elts kk tpos) (.Call (.Name "enumerate" p) [e] [] pos) (iEnumT X.K ta) := by
  refine ⟨fun pins s σ H R I h => ?_⟩
  refine Call_ (ld_blt I hg hm boot_enumerate (PyProof.Rows.callWith_type1 (thn (ha.run pos pins s σ H _ I h) fun us s1 ⟨vs, H1, I1, r1, q1⟩ => ?_) hs rfl))
  obtain ⟨a, xs, ex, hq, q⟩ := q1
  subst ex
  cases r1 with
  | cons r rr =>
    cases rr
    cases r
    obtain ⟨its, rv, p', hz⟩ := I1.tuple hq
    have hal : a < s1.heap.objs.size := by obtain ⟨o, ho, _⟩ := id p'; exact Heap.lt_size ho
    refine ev_call_enumT (show s1.heap.IsTuple a its.toArray from p') fun h' he hit hk => wpAny_pyIter_enum he ?_
    have I2 : Inv X pins σ H1 { s1 with heap := h' } := I1.kept (t' := s1.toks) hk
    refine ⟨s1.heap.objs.size + 1, [s1.heap.objs.size + 1, s1.heap.objs.size], _, _, H1, rfl, I2, turn_enumT a (s1.heap.objs.size + 1) s1.heap.objs.size, ⟨⟨.none, he⟩, hit, Nat.succ_ne_self _, Nat.ne_of_lt (Nat.lt_succ_of_lt hal), Nat.ne_of_lt hal⟩, fun b hb => ?_, q⟩
    have e' : b = s1.heap.objs.size + 1 ∨ b = s1.heap.objs.size := by simpa using hb
    have hle : s1.heap.objs.size ≤ b := by
      rcases e' with z | z
      · rw [z]; exact Nat.le_add_right _ _
      · rw [z]; exact Nat.le_refl _
    exact I1.fpOk hle (I1.hok.fresh hle)
end Ev

set_option Elab.async false
set_option linter.all false
set_option maxRecDepth 100000
set_option maxHeartbeats 4000000
namespace Ev
open PySem PySem.Spec PyProof.Rows L2 RZ

/-! ### what is walked -/
/-- J yields the items p.1, as long as the lists p.2 stay -/
def YOk (K : PySem.W.Frag) (ρ1 : List Addr) (H1 : Hp) (p : List D × Deps) (J : L2.It) : Prop :=
  ∀ ρ h H, Stp ρ1 H1 ρ H → HRel K ρ h H → depOk h p.2 = true → J.stop p.1.length H ∧ ∀ (i : Nat) (d : D), p.1[i]? = some d → J.go i H ∧ ∀ x H', J.yld i H x H' → Stp ρ H ρ H' ∧ HRel K ρ h H' ∧ Rep K ρ H' d x
def tI (K : PySem.W.Frag) (f : En → Hh → R (List D × Deps)) : TI := fun σ H R => ∃ ρ env h, HRel K ρ h H ∧ ERel K ρ H env σ ∧ Wd K ρ H (f env h) fun p _ ρ1 H1 => ∀ J, YOk K ρ1 H1 p J → R J H1
section
variable {K : PySem.W.Frag} {ρ1 : List Addr} {H1 : Hp} {a b : Addr} {xs ys : List D} {vs us : List V}
theorem y_tup (sa : SqT K H1 a vs) (r : Reps K ρ1 H1 xs vs) : YOk K ρ1 H1 (xs, []) (Itt K a) := fun ρ h H st hr _ => by
  have s1 := st.ext.sqT sa
  refine ⟨⟨vs, s1, by rw [← r.length]; exact Nat.le_refl _⟩, fun i d e => ?_⟩
  obtain ⟨v, ev, rv⟩ := r.get e
  refine ⟨⟨vs, v, s1, ev⟩, fun x H' y => ?_⟩
  obtain ⟨rfl, y⟩ := y
  have := y vs s1
  rw [ev] at this
  cases this
  exact ⟨.refl, hr, Rep.mono st d rv⟩
theorem dep_one {h : Hh} {n : Nat} {xs : List D} {r : Deps} (d : depOk h ((n, xs) :: r) = true) : h[n]? = some (.lst xs) ∧ depOk h r = true := by
  unfold depOk at d
  simp only [Bool.and_eq_true, decide_eq_true_eq] at d
  exact d
theorem seq_at {ρ : List Addr} {h : Hh} {H : Hp} {n : Nat} (st : Stp ρ1 H1 ρ H) (hr : HRel K ρ h H) (e : ρ1[n]? = some a) (d : h[n]? = some (.lst xs)) : ∃ vs, SqL K H a vs ∧ Reps K ρ H xs vs :=
  (hr.at_ n a _ (pre_get st.pre e) d).list
theorem y_rol (sa : RoL K H1 a vs) (r : Reps K ρ1 H1 xs vs) : YOk K ρ1 H1 (xs, []) (Itl K a) := fun ρ h H st hr _ => by
  have s1 := (st.ext.roL sa).sqL
  refine ⟨⟨vs, s1, by rw [← r.length]; exact Nat.le_refl _⟩, fun i d e => ?_⟩
  obtain ⟨v, ev, rv⟩ := r.get e
  refine ⟨⟨vs, v, s1, ev⟩, fun x H' y => ?_⟩
  obtain ⟨rfl, y⟩ := y
  have := y vs s1
  rw [ev] at this
  cases this
  exact ⟨.refl, hr, Rep.mono st d rv⟩
theorem y_lst {n : Nat} (e : ρ1[n]? = some a) : YOk K ρ1 H1 (xs, [(n, xs)]) (Itl K a) := fun ρ h H st hr dp => by
  obtain ⟨vs, s1, r⟩ := seq_at st hr e (dep_one dp).1
  refine ⟨⟨vs, s1, by rw [← r.length]; exact Nat.le_refl _⟩, fun i d e => ?_⟩
  obtain ⟨v, ev, rv⟩ := r.get e
  refine ⟨⟨vs, v, s1, ev⟩, fun x H' y => ?_⟩
  obtain ⟨rfl, y⟩ := y
  have := y vs s1
  rw [ev] at this
  cases this
  exact ⟨.refl, hr, rv⟩
theorem enumD_get : ∀ (xs : List D) (k i : Nat), (enumD k xs)[i]? = xs[i]?.map fun x => .tup [.int ((k + i : Nat) : Int), x]
  | [], _, _ => by simp [enumD]
  | x :: xs, k, 0 => by simp [enumD]
  | x :: xs, k, i + 1 => by
    rw [enumD, List.getElem?_cons_succ, enumD_get xs (k + 1) i, List.getElem?_cons_succ]
    rw [show k + 1 + i = k + (i + 1) by omega]
theorem enumD_len : ∀ (xs : List D) (k : Nat), (enumD k xs).length = xs.length
  | [], _ => rfl
  | x :: xs, k => by simp [enumD, enumD_len xs (k + 1)]
theorem zipD_get : ∀ (xs ys : List D) (i : Nat) (d : D), (zipD xs ys)[i]? = some d → ∃ x y, xs[i]? = some x ∧ ys[i]? = some y ∧ d = .tup [x, y]
  | [], _, i, d, h => by simp [zipD] at h
  | _ :: _, [], i, d, h => by simp [zipD] at h
  | x :: xs, y :: ys, 0, d, h => by simp [zipD] at h; exact ⟨x, y, rfl, rfl, h.symm⟩
  | x :: xs, y :: ys, i + 1, d, h => by
    rw [zipD, List.getElem?_cons_succ] at h
    obtain ⟨u, v, e1, e2, e3⟩ := zipD_get xs ys i d h
    exact ⟨u, v, by simpa using e1, by simpa using e2, e3⟩
theorem zipD_len : ∀ (xs ys : List D), (zipD xs ys).length = min xs.length ys.length
  | [], _ => by simp [zipD]
  | _ :: _, [] => by simp [zipD]
  | x :: xs, y :: ys => by simp [zipD, zipD_len xs ys]
/-- a new pair -/
theorem pair_new {ρ : List Addr} {h : Hh} {H : Hp} {T : Addr} {x y : D} {v u : V} (n : H T = none) (hr : HRel K ρ h H) (rx : Rep K ρ H x v) (ry : Rep K ρ H y u) :
    Stp ρ H ρ (upd H T (.tup [v, u])) ∧ HRel K ρ h (upd H T (.tup [v, u])) ∧ Rep K ρ (upd H T (.tup [v, u])) (.tup [x, y]) (.ref T) :=
  ⟨.new n, hr.junk n, T, [v, u], rfl, .of upd_same, .cons (Rep.mono (.new n) x rx) (.one (Rep.mono (.new n) y ry))⟩
theorem y_enr (sa : RoL K H1 a vs) (r : Reps K ρ1 H1 xs vs) : YOk K ρ1 H1 (enumD 0 xs, []) (Ite K a) := fun ρ h H st hr _ => by
  have s1 := (st.ext.roL sa).sqL
  refine ⟨⟨vs, s1, by rw [← r.length, enumD_len]; exact Nat.le_refl _⟩, fun i d e => ?_⟩
  rw [enumD_get] at e
  obtain ⟨x0, e0, rfl⟩ := Option.map_eq_some_iff.mp e
  obtain ⟨v, ev, rv⟩ := r.get e0
  refine ⟨⟨vs, v, s1, ev⟩, fun x H' y => ?_⟩
  obtain ⟨T, z, rfl, n0, rfl, y⟩ := y
  have := y vs s1
  rw [ev] at this
  cases this
  rw [Nat.zero_add]
  exact pair_new n0 hr rfl (Rep.mono st _ rv)
theorem y_enl {n : Nat} (e : ρ1[n]? = some a) : YOk K ρ1 H1 (enumD 0 xs, [(n, xs)]) (Ite K a) := fun ρ h H st hr dp => by
  obtain ⟨vs, s1, r⟩ := seq_at st hr e (dep_one dp).1
  refine ⟨⟨vs, s1, by rw [← r.length, enumD_len]; exact Nat.le_refl _⟩, fun i d e => ?_⟩
  rw [enumD_get] at e
  obtain ⟨x0, e0, rfl⟩ := Option.map_eq_some_iff.mp e
  obtain ⟨v, ev, rv⟩ := r.get e0
  refine ⟨⟨vs, v, s1, ev⟩, fun x H' y => ?_⟩
  obtain ⟨T, z, rfl, n0, rfl, y⟩ := y
  have := y vs s1
  rw [ev] at this
  cases this
  rw [Nat.zero_add]
  exact pair_new n0 hr rfl rv
theorem y_ent (sa : SqT K H1 a vs) (r : Reps K ρ1 H1 xs vs) : YOk K ρ1 H1 (enumD 0 xs, []) (IteT K a) := fun ρ h H st hr _ => by
  have s1 := st.ext.sqT sa
  refine ⟨⟨vs, s1, by rw [← r.length, enumD_len]; exact Nat.le_refl _⟩, fun i d e => ?_⟩
  rw [enumD_get] at e
  obtain ⟨x0, e0, rfl⟩ := Option.map_eq_some_iff.mp e
  obtain ⟨v, ev, rv⟩ := r.get e0
  refine ⟨⟨vs, v, s1, ev⟩, fun x H' y => ?_⟩
  obtain ⟨T, z, rfl, n0, rfl, y⟩ := y
  have := y vs s1
  rw [ev] at this
  cases this
  rw [Nat.zero_add]
  exact pair_new n0 hr rfl (Rep.mono st _ rv)
theorem y_zll {n m : Nat} (e : ρ1[n]? = some a) (e2 : ρ1[m]? = some b) : YOk K ρ1 H1 (zipD xs ys, [(n, xs), (m, ys)]) (Itz K a b) := fun ρ h H st hr dp => by
  obtain ⟨vs, s1, r⟩ := seq_at st hr e (dep_one dp).1
  obtain ⟨us, s2, r2⟩ := seq_at st hr e2 (dep_one (dep_one dp).2).1
  refine ⟨⟨vs, us, s1, s2, by rw [← r.length, ← r2.length, zipD_len]; omega⟩, fun i d e => ?_⟩
  obtain ⟨x0, y0, e0, e1, rfl⟩ := zipD_get _ _ _ _ e
  obtain ⟨v, ev, rv⟩ := r.get e0
  obtain ⟨u, eu, ru⟩ := r2.get e1
  refine ⟨⟨vs, us, v, u, s1, s2, ev, eu⟩, fun x H' y => ?_⟩
  obtain ⟨T, z, z2, rfl, n0, rfl, y, y2⟩ := y
  have q1 := y vs s1
  have q2 := y2 us s2
  rw [ev] at q1
  rw [eu] at q2
  cases q1; cases q2
  exact pair_new n0 hr rv ru
theorem y_ztt (sa : SqT K H1 a vs) (r : Reps K ρ1 H1 xs vs) (sb : SqT K H1 b us) (r2 : Reps K ρ1 H1 ys us) : YOk K ρ1 H1 (zipD xs ys, []) (ItzT K a b) := fun ρ h H st hr dp => by
  have s1 := st.ext.sqT sa
  have s2 := st.ext.sqT sb
  refine ⟨⟨vs, us, s1, s2, by rw [← r.length, ← r2.length, zipD_len]; omega⟩, fun i d e => ?_⟩
  obtain ⟨x0, y0, e0, e1, rfl⟩ := zipD_get _ _ _ _ e
  obtain ⟨v, ev, rv⟩ := r.get e0
  obtain ⟨u, eu, ru⟩ := r2.get e1
  refine ⟨⟨vs, us, v, u, s1, s2, ev, eu⟩, fun x H' y => ?_⟩
  obtain ⟨T, z, z2, rfl, n0, rfl, y, y2⟩ := y
  have q1 := y vs s1
  have q2 := y2 us s2
  rw [ev] at q1
  rw [eu] at q2
  cases q1; cases q2
  exact pair_new n0 hr (Rep.mono st _ rv) (Rep.mono st _ ru)
theorem rangeD_get {lo c : Int} {n i : Nat} {d : D} (e : (rangeD lo c n)[i]? = some d) : i < n ∧ d = .int (lo + (i : Nat) * c) := by
  unfold rangeD at e
  rw [List.getElem?_map] at e
  obtain ⟨j, ej, rfl⟩ := Option.map_eq_some_iff.mp e
  obtain ⟨h1, h2⟩ := List.getElem?_eq_some_iff.mp ej
  simp at h1 h2
  subst h2
  exact ⟨h1, rfl⟩
theorem y_rng {lo : Int} {n : Nat} : YOk K ρ1 H1 (rangeD lo 1 n, []) (Itr lo n) := fun ρ h H st hr _ => by
  refine ⟨by show n ≤ (rangeD lo 1 n).length; simp [rangeD], fun i d e => ?_⟩
  obtain ⟨hi, rfl⟩ := rangeD_get e
  refine ⟨hi, fun x H' y => ?_⟩
  obtain ⟨rfl, rfl⟩ := y
  exact ⟨.refl, hr, by rw [Int.mul_one]; rfl⟩
theorem y_rngC {lo c : Int} {n : Nat} : YOk K ρ1 H1 (rangeD lo c n, []) (Itc lo c n) := fun ρ h H st hr _ => by
  refine ⟨by show n ≤ (rangeD lo c n).length; simp [rangeD], fun i d e => ?_⟩
  obtain ⟨hi, rfl⟩ := rangeD_get e
  refine ⟨hi, fun x H' y => ?_⟩
  obtain ⟨rfl, rfl⟩ := y
  exact ⟨.refl, hr, rfl⟩
end
theorem rangeSize_nn (i j k : Int) (h : 0 < k) : 0 ≤ Builtin.Range.rangeSize i j k := by
  unfold Builtin.Range.rangeSize
  rw [if_pos (show k > 0 from h)]
  split
  · have : 0 ≤ (j - i - 1) / k := Int.ediv_nonneg (by omega) (by omega)
    omega
  · exact Int.le_refl 0
theorem rngop1 {x : D} {q : List D} (e : rngop [x] = some q) : ∃ j, x = .int j ∧ -(2 ^ 62) ≤ j ∧ j < 2 ^ 62 ∧ q = rangeD 0 1 j.toNat := by
  cases x with
  | int j =>
    by_cases c : -(2 ^ 62) ≤ j ∧ j < 2 ^ 62
    · rw [show rngop [.int j] = some (rangeD 0 1 j.toNat) from if_pos c] at e
      exact ⟨j, rfl, c.1, c.2, (Option.some.inj e).symm⟩
    · rw [show rngop [.int j] = none from if_neg c] at e
      cases e
  | _ => cases e
theorem rngop2 {x y : D} {q : List D} (e : rngop [x, y] = some q) : ∃ i j, x = .int i ∧ y = .int j ∧ (-(2 ^ 62) ≤ i ∧ i < 2 ^ 62 ∧ -(2 ^ 62) ≤ j ∧ j < 2 ^ 62) ∧ q = rangeD i 1 (j - i).toNat := by
  cases x with
  | int i =>
    cases y with
    | int j =>
      by_cases c : -(2 ^ 62) ≤ i ∧ i < 2 ^ 62 ∧ -(2 ^ 62) ≤ j ∧ j < 2 ^ 62
      · rw [show rngop [.int i, .int j] = some (rangeD i 1 (j - i).toNat) from if_pos c] at e
        exact ⟨i, j, rfl, rfl, c, (Option.some.inj e).symm⟩
      · rw [show rngop [.int i, .int j] = none from if_neg c] at e
        cases e
    | _ => cases e
  | _ => cases y <;> cases e
theorem rngop3 {x y z : D} {q : List D} (e : rngop [x, y, z] = some q) : ∃ i j c, x = .int i ∧ y = .int j ∧ z = .int c ∧ (0 < c ∧ c < 1073741824 ∧ Builtin.Range.small i j c = true) ∧ q = rangeD i c (Builtin.Range.rangeSize i j c).toNat := by
  cases x with
  | int i =>
    cases y with
    | int j =>
      cases z with
      | int k =>
        by_cases c : 0 < k ∧ k < 1073741824 ∧ Builtin.Range.small i j k = true
        · rw [show rngop [.int i, .int j, .int k] = some (rangeD i k (Builtin.Range.rangeSize i j k).toNat) from if_pos c] at e
          exact ⟨i, j, k, rfl, rfl, rfl, c, (Option.some.inj e).symm⟩
        · rw [show rngop [.int i, .int j, .int k] = none from if_neg c] at e
          cases e
      | _ => cases e
    | _ => cases z <;> cases e
  | _ => cases y <;> cases z <;> cases e
theorem PI.or {X : Cx} {tg l : Expr} {t u : TI} (h : PI X tg l t) (h' : PI X tg l u) : PI X tg l (fun σ H R => t σ H R ∨ u σ H R) :=
  ⟨fun pins s σ H R I q => q.elim (fun q => h.run pins s σ H R I q) fun q => h'.run pins s σ H R I q⟩
section
variable {X : Cx} {cf : CF} {a b c tg : Expr} {ia ib ic : E} {pos p : Pos}
abbrev PIv (X : Cx) (cf : CF) (tg e : Expr) (i : It) : Prop := PI X tg e (tI X.K (evI cf i))
theorem wd_eq {K : PySem.W.Frag} {α : Type} {ρ : List Addr} {H : Hp} {r : R α} {P : α → Hh → List Addr → Hp → Prop} (w : Wd K ρ H r P) : ∃ x h', r = .ok x h' := let ⟨a, b, e, _⟩ := w; ⟨a, b, e⟩
theorem wd_sure {K : PySem.W.Frag} {α : Type} {ρ : List Addr} {H : Hp} {r : R α} {a : α} {h' : Hh} {P : α → Hh → List Addr → Hp → Prop} (e : r = .ok a h') (w : ∀ ρ' H', Stp ρ H ρ' H' → HRel K ρ' h' H' → P a h' ρ' H') : Wd K ρ H r P := ⟨a, h', e, w⟩
theorem ev_seq (ha : PEv X cf a ia) : PIv X cf tg a (.seq ia) := by
  refine PI.of (PI.or (pi_list ha) (pi_tup ha)) fun σ H R ⟨ρ, env, h, hr, er, w⟩ => ?_
  obtain ⟨x, h1, e1⟩ := wd_eq (Wd.bind w)
  have w1 := (Wd.bind w)
  rw [e1] at w1
  cases x with
  | tup xs =>
    refine .inr ⟨ρ, env, h, hr, er, wd_sure e1 fun ρ1 H1 s1 r1 v rv => ?_⟩
    obtain ⟨q, vs, rfl, sa, ra⟩ := rv
    exact ⟨q, rfl, ⟨vs, sa⟩, (w1.ok ρ1 H1 s1 r1).ok ρ1 H1 .refl r1 _ (y_tup sa ra)⟩
  | rol xs =>
    refine .inl ⟨ρ, env, h, hr, er, wd_sure e1 fun ρ1 H1 s1 r1 v rv => ?_⟩
    obtain ⟨q, vs, rfl, sa, ra⟩ := rv
    exact ⟨q, rfl, ⟨vs, sa.sqL⟩, (w1.ok ρ1 H1 s1 r1).ok ρ1 H1 .refl r1 _ (y_rol sa ra)⟩
  | obj n =>
    refine .inl ⟨ρ, env, h, hr, er, wd_sure e1 fun ρ1 H1 s1 r1 v rv => ?_⟩
    have w2 := w1.ok ρ1 H1 s1 r1
    simp only [seqD] at w2
    obtain ⟨q, eq, rfl⟩ := rv
    split at w2
    · rename_i p e2
      split at e2
      · rename_i xs e3
        cases e2
        obtain ⟨vs, e4, _⟩ := (r1.at_ n q _ eq e3).list
        exact ⟨q, rfl, ⟨vs, e4⟩, w2.ok ρ1 H1 .refl r1 _ (y_lst eq)⟩
      · cases e2
    · exact w2.bad.elim
  | _ =>
    obtain ⟨p, h', e, _⟩ := w
    have e : (evE cf ia env h).bind _ = .ok p h' := e
    rw [e1] at e
    cases e
theorem star1 {e : Expr} {env : Env} (h : isStar e = false) : starEach [e] env = [(false, eval e env)] := star_cons h
theorem any_back {es : List Expr} {env : Env} {pos : Pos} (h : ∀ e ∈ es, isStar e = false) : (backTo pos (starEach es env)).any (·.1) = false := by
  induction es with
  | nil => rfl
  | cons e r ih =>
    rw [star_cons (h e List.mem_cons_self)]
    have := ih fun x hx => h x (List.mem_cons_of_mem _ hx)
    unfold backTo at this ⊢
    rw [List.map_cons, List.any_cons, this]
    rfl
def Es.len : Es → Nat
  | .nil => 0
  | .cons _ r => r.len + 1
theorem evs_len {cf : CF} : ∀ (is : Es) (env : En) (h : Hh) (xs : List D) (h1 : Hh), evEs cf is env h = .ok xs h1 → xs.length = is.len
  | .nil, env, h, xs, h1, e => by cases (show R.ok [] h = .ok xs h1 from e); rfl
  | .cons i r, env, h, xs, h1, e => by
    obtain ⟨x, h2, _, e2⟩ := R.bind_eq_ok (show (evE cf i env h).bind _ = .ok xs h1 from e)
    obtain ⟨ys, h3, e3, e4⟩ := R.bind_eq_ok (show (evEs cf r env h2).bind _ = .ok xs h1 from e2)
    cases e4
    rw [List.length_cons, evs_len r env h2 ys h1 e3]
    rfl
/-- the items evaluated, and how many -/
theorem evs_bind {K : PySem.W.Frag} {α : Type} {ρ : List Addr} {H : Hp} {env : En} {h : Hh} {f : List D → Hh → R α} {is : Es} {P : α → Hh → List Addr → Hp → Prop} (w : Wd K ρ H ((evEs cf is env h).bind f) P) : Wd K ρ H (evEs cf is env h) fun xs h1 ρ1 H1 => xs.length = is.len ∧ Wd K ρ1 H1 (f xs h1) P := by
  obtain ⟨xs, h1, e, q⟩ := Wd.bind w
  exact ⟨xs, h1, e, fun ρ1 H1 s r => ⟨evs_len is env h xs h1 e, q ρ1 H1 s r⟩⟩
theorem rng_ok {K : PySem.W.Frag} {ρ : List Addr} {H : Hp} {xs : List D} {h : Hh} {P : List D × Deps → Hh → List Addr → Hp → Prop} (w : Wd K ρ H (match rngop xs with | some p => R.ok (p, []) h | none => .bad) P) (hr : HRel K ρ h H) : ∃ q, rngop xs = some q ∧ P (q, []) h ρ H := by
  split at w
  · rename_i q e
    exact ⟨q, e, w.ok ρ H .refl hr⟩
  · exact w.bad.elim
theorem ev_rng1 (hg : Gl X "range") (hm : X.mg "range" = none) (ha : PEv X cf a ia) (hs : isStar a = false) : PIv X cf tg (.Call (.Name "range" p) [a] [] pos) (.rng (.cons ia .nil)) := by
  refine PI.of (pi_range1 hg hm (ev_cons ha ev_nil hs) (star1 hs)) fun σ H R ⟨ρ, env, h, hr, er, w⟩ => ?_
  refine ⟨ρ, env, h, hr, er, (evs_bind w).imp fun xs h1 ρ1 H1 s1 r1 ⟨hl, w1⟩ vs rs => ?_⟩
  match xs, hl with
  | [x], _ =>
    obtain ⟨q, e, w2⟩ := rng_ok w1 r1
    obtain ⟨j, rfl, c1, c2, rfl⟩ := rngop1 e
    obtain ⟨v, rfl, rv⟩ := reps1 rs
    cases (show v = .int j from rv)
    exact ⟨j, rfl, c1, c2, w2 _ y_rng⟩
theorem ev_rng2 (hg : Gl X "range") (hm : X.mg "range" = none) (ha : PEv X cf a ia) (hb : PEv X cf b ib) (hs : isStar a = false) (hs2 : isStar b = false) : PIv X cf tg (.Call (.Name "range" p) [a, b] [] pos) (.rng (.cons ia (.cons ib .nil))) := by
  refine PI.of (pi_range2 hg hm (ev_cons ha (ev_cons hb ev_nil hs2) hs) (by rw [star_cons hs, star1 hs2]) (star1 hs2)) fun σ H R ⟨ρ, env, h, hr, er, w⟩ => ?_
  refine ⟨ρ, env, h, hr, er, (evs_bind w).imp fun xs h1 ρ1 H1 s1 r1 ⟨hl, w1⟩ vs rs => ?_⟩
  match xs, hl with
  | [x, y], _ =>
    obtain ⟨q, e, w2⟩ := rng_ok w1 r1
    obtain ⟨i, j, rfl, rfl, c, rfl⟩ := rngop2 e
    obtain ⟨v, u, rfl, rv, ru⟩ := reps2 rs
    cases (show v = .int i from rv)
    cases (show u = .int j from ru)
    exact ⟨i, j, rfl, c, w2 _ y_rng⟩
theorem ev_rng3 (hg : Gl X "range") (hm : X.mg "range" = none) (ha : PEv X cf a ia) (hb : PEv X cf b ib) (hc : PEv X cf c ic) (hs : isStar a = false) (hs2 : isStar b = false) (hs3 : isStar c = false) :
    PIv X cf tg (.Call (.Name "range" p) [a, b, c] [] pos) (.rng (.cons ia (.cons ib (.cons ic .nil)))) := by
  refine PI.of (pi_range3 hg hm (ev_cons ha (ev_cons hb (ev_cons hc ev_nil hs3) hs2) hs) (by rw [star_cons hs]) (any_back fun e he => by simp at he; rcases he with rfl | rfl <;> assumption)) fun σ H R ⟨ρ, env, h, hr, er, w⟩ => ?_
  refine ⟨ρ, env, h, hr, er, (evs_bind w).imp fun xs h1 ρ1 H1 s1 r1 ⟨hl, w1⟩ vs rs => ?_⟩
  match xs, hl with
  | [x, y, z], _ =>
    obtain ⟨q, e, w2⟩ := rng_ok w1 r1
    obtain ⟨i, j, k, rfl, rfl, rfl, c, rfl⟩ := rngop3 e
    obtain ⟨v, _, rfl, rv, rs⟩ := rs
    obtain ⟨u, t, rfl, ru, rt⟩ := reps2 rs
    cases (show v = .int i from rv)
    cases (show u = .int j from ru)
    cases (show t = .int k from rt)
    have h0 : 0 ≤ Builtin.Range.rangeSize i j k := rangeSize_nn i j k c.1
    exact ⟨i, j, k, (Builtin.Range.rangeSize i j k).toNat, rfl, ⟨by omega, by omega, c.2.2, by omega⟩, w2 _ y_rngC⟩
theorem ev_enm {elts : List Expr} {kk : Nat} {tpos : Pos} (hg : Gl X "enumerate") (hm : X.mg "enumerate" = none) (ha : PEv X cf a ia) (hs : isStar a = false) : PIv X cf (.Tuple elts kk tpos) (.Call (.Name "enumerate" p) [a] [] pos) (.enm ia) := by
  refine PI.of (PI.or (pi_enum hg hm (ev_cons ha ev_nil hs) (star1 hs)) (pi_enumT hg hm (ev_cons ha ev_nil hs) (star1 hs))) fun σ H R ⟨ρ, env, h, hr, er, w⟩ => ?_
  obtain ⟨x, h1, e1⟩ := wd_eq (Wd.bind w)
  have w1 := (Wd.bind w)
  rw [e1] at w1
  have e2 : evEs cf (.cons ia .nil) env h = .ok [x] h1 := by
    show (evE cf ia env h).bind _ = _
    rw [e1]
    rfl
  cases x with
  | tup xs =>
    refine .inr ⟨ρ, env, h, hr, er, wd_sure e2 fun ρ1 H1 s1 r1 vs rs => ?_⟩
    obtain ⟨v, rfl, rv⟩ := reps1 rs
    obtain ⟨q, vs, rfl, sa, ra⟩ := rv
    exact ⟨q, vs, rfl, sa, (w1.ok ρ1 H1 s1 r1).ok ρ1 H1 .refl r1 _ (y_ent sa ra)⟩
  | rol xs =>
    refine .inl ⟨ρ, env, h, hr, er, wd_sure e2 fun ρ1 H1 s1 r1 vs rs => ?_⟩
    obtain ⟨v, rfl, rv⟩ := reps1 rs
    obtain ⟨q, vs, rfl, sa, ra⟩ := rv
    exact ⟨q, vs, rfl, sa.sqL, (w1.ok ρ1 H1 s1 r1).ok ρ1 H1 .refl r1 _ (y_enr sa ra)⟩
  | obj n =>
    refine .inl ⟨ρ, env, h, hr, er, wd_sure e2 fun ρ1 H1 s1 r1 vs rs => ?_⟩
    obtain ⟨v, rfl, rv⟩ := reps1 rs
    have w2 := w1.ok ρ1 H1 s1 r1
    simp only [seqD] at w2
    obtain ⟨q, eq, rfl⟩ := rv
    split at w2
    · rename_i p e2
      split at e2
      · rename_i xs e3
        cases e2
        obtain ⟨vs, e4, _⟩ := (r1.at_ n q _ eq e3).list
        exact ⟨q, vs, rfl, e4, w2.ok ρ1 H1 .refl r1 _ (y_enl eq)⟩
      · cases e2
    · exact w2.bad.elim
  | _ =>
    obtain ⟨p, h', e, _⟩ := w
    have e : (evE cf ia env h).bind _ = .ok p h' := e
    rw [e1] at e
    cases e
/-- a list's place, and what it holds -/
theorem seq_obj {K : PySem.W.Frag} {ρ : List Addr} {h : Hh} {H : Hp} {n : Nat} {v : V} {p : List D × Deps} (hr : HRel K ρ h H) (r : Rep K ρ H (.obj n) v) (e : seqD h (.obj n) = some p) : ∃ q xs vs, v = .ref q ∧ ρ[n]? = some q ∧ p = (xs, [(n, xs)]) ∧ SqL K H q vs ∧ Reps K ρ H xs vs := by
  obtain ⟨q, eq, rfl⟩ := r
  simp only [seqD] at e
  split at e
  · rename_i xs e3
    cases e
    obtain ⟨vs, e4, e5⟩ := (hr.at_ n q _ eq e3).list
    exact ⟨q, xs, vs, rfl, eq, rfl, e4, e5⟩
  · cases e
theorem ev_zip {elts : List Expr} {kk : Nat} {tpos : Pos} (hg : Gl X "zip") (hm : X.mg "zip" = none) (ha : PEv X cf a ia) (hb : PEv X cf b ib) (hs : isStar a = false) (hs2 : isStar b = false) : PIv X cf (.Tuple elts kk tpos) (.Call (.Name "zip" p) [a, b] [] pos) (.zip ia ib) := by
  refine PI.of (pi_zipA hg hm (ev_cons ha (ev_cons hb ev_nil hs2) hs) (star_cons hs) (any_back fun e he => by simp at he; subst he; exact hs2)) fun σ H R ⟨ρ, env, h, hr, er, w⟩ => ?_
  refine ⟨ρ, env, h, hr, er, ?_⟩
  have q : Wd X.K ρ H (evEs cf (.cons ia (.cons ib .nil)) env h) fun xs h1 ρ1 H1 => ∃ x y, xs = [x, y] ∧ Wd X.K ρ1 H1 (match zipop h1 x y with
      | some p => .ok p h1
      | none => .bad) fun p _ ρ1 H1 => ∀ J, YOk X.K ρ1 H1 p J → R J H1 := by
    obtain ⟨x, h1, e1, w1⟩ := Wd.bind w
    obtain ⟨p, h3, e, wq⟩ := w
    have e : (evE cf ia env h).bind _ = .ok p h3 := e
    rw [e1] at e
    obtain ⟨y, h2, e2, e3⟩ := Ev.R.bind_eq_ok (show (evE cf ib env h1).bind _ = .ok p h3 from e)
    refine ⟨[x, y], h2, ?_, fun ρ1 H1 s1 r1 => ⟨x, y, rfl, p, h3, e3, fun ρ2 H2 s2 r2 => wq ρ2 H2 (s1.trans s2) r2⟩⟩
    show (evE cf ia env h).bind _ = _
    rw [e1]
    show ((evE cf ib env h1).bind _).bind _ = _
    rw [e2]
    rfl
  refine q.imp fun xs h1 ρ1 H1 s1 r1 ⟨x, y, ex, w1⟩ vs rs => ?_
  subst ex
  obtain ⟨v, u, rfl, rv, ru⟩ := reps2 rs
  cases x with
  | tup xs =>
    cases y with
    | tup ys =>
      have w2 := w1.ok ρ1 H1 .refl r1
      obtain ⟨a1, v1, rfl, sa, ra⟩ := rv
      obtain ⟨b1, u1, rfl, sb, rb⟩ := ru
      exact ⟨a1, b1, v1, u1, rfl, .inr ⟨sa, sb, w2 _ (y_ztt sa ra sb rb)⟩⟩
    | _ => exact w1.bad.elim
  | obj n =>
    cases y with
    | obj m =>
      simp only [zipop] at w1
      cases ep : seqD h1 (.obj n) with
      | none => rw [ep] at w1; exact w1.bad.elim
      | some p =>
        cases eq : seqD h1 (.obj m) with
        | none => rw [ep, eq] at w1; exact w1.bad.elim
        | some q =>
          rw [ep, eq] at w1
          have w2 := w1.ok ρ1 H1 .refl r1
          obtain ⟨a1, xs, v1, rfl, e1, rfl, sa, ra⟩ := seq_obj r1 rv ep
          obtain ⟨b1, ys, u1, rfl, e2, rfl, sb, rb⟩ := seq_obj r1 ru eq
          exact ⟨a1, b1, v1, u1, rfl, .inl ⟨sa, sb, w2 _ (y_zll e1 e2)⟩⟩
    | _ => exact w1.bad.elim
  | _ => cases y <;> exact w1.bad.elim
end
end Ev

set_option Elab.async false
set_option linter.all false
set_option maxRecDepth 100000
set_option maxHeartbeats 4000000
namespace Ev
open PySem PySem.Spec PyProof.Rows L2

/-! ### targets -/
mutual
/-- only names at vs are stored -/
def ownT (vs : List Nat) : T → Bool
  | .nm i => vs.contains i
  | .tp ts => ownTs vs ts
  | .sub _ _ => true
def ownTs (vs : List Nat) : Ts → Bool
  | .nil => true
  | .cons t r => ownT vs t && ownTs vs r
end
def Ts.len : Ts → Nat
  | .nil => 0
  | .cons _ r => r.len + 1
theorem wipe_get (σ : L2.St) : ∀ (vs : List Nat) (j : Nat), (wipe σ vs)[j]? = if j ∈ vs ∧ j < σ.length then some none else σ[j]?
  | [], j => by simp [wipe]
  | v :: vs, j => by
    show ((wipe σ vs).set v none)[j]? = _
    rw [List.getElem?_set, wipe_get σ vs j, wipe_length]
    by_cases h : v = j
    · subst h
      by_cases h2 : v < σ.length
      · simp [h2]
      · simp [h2]
    · simp [h, Ne.symm h]
theorem wipe_set {σ : L2.St} {i : Nat} {x : Option V} {vs : List Nat} (h : i ∈ vs) : wipe (σ.set i x) vs = wipe σ vs := by
  apply List.ext_getElem?
  intro j
  rw [wipe_get, wipe_get, List.length_set, List.getElem?_set]
  by_cases hj : i = j
  · subst hj
    by_cases hl : i < σ.length
    · simp [h, hl]
    · simp [hl]
  · simp [hj]
def tG (K : PySem.W.Frag) (f : D → En → Hh → R En) (own : List Nat → Bool) : TG := fun v σ H Q => ∃ d ρ env h, HRel K ρ h H ∧ ERel K ρ H env σ ∧ Rep K ρ H d v ∧ Wd K ρ H (f d env h) fun env' _ ρ' H' => ∀ σ', ERel K ρ' H' env' σ' → (∀ vs, own vs = true → wipe σ' vs = wipe σ vs) → Q σ' H'
def tGs (K : PySem.W.Frag) (f : List D → En → Hh → R En) (own : List Nat → Bool) : TGs := fun vs σ H Q => ∃ ds ρ env h, HRel K ρ h H ∧ ERel K ρ H env σ ∧ Reps K ρ H ds vs ∧ Wd K ρ H (f ds env h) fun env' _ ρ' H' => ∀ σ', ERel K ρ' H' env' σ' → (∀ vs, own vs = true → wipe σ' vs = wipe σ vs) → Q σ' H'
theorem pg_or {X : Cx} {e : Expr} {t u : TG} (h : PG X e t) (h' : PG X e u) : PG X e (fun v σ H Q => t v σ H Q ∨ u v σ H Q) :=
  ⟨fun pins s σ H v u Q I r q => q.elim (fun q => h.run pins s σ H v u Q I r q) fun q => h'.run pins s σ H v u Q I r q⟩
section
variable {X : Cx} {cf : CF} {a b c tg : Expr} {ia ib ic : E} {t : T} {ts : Ts} {pos p : Pos}
abbrev PGv (X : Cx) (cf : CF) (e : Expr) (t : T) : Prop := PG X e (tG X.K (asT cf t) fun vs => ownT vs t)
abbrev PGsv (X : Cx) (cf : CF) (es : List Expr) (ts : Ts) : Prop := PGs X es (tGs X.K (asTs cf ts) fun vs => ownTs vs ts)
theorem assignEach_cons {e : Expr} {es : List Expr} {env : Env} (h : isStar e = false) : assignEach (e :: es) env = (false, assign e env) :: assignEach es env := by
  cases e <;> first | rfl | cases h
theorem assignEach_len {es : List Expr} {env : Env} (h : ∀ e ∈ es, isStar e = false) : (assignEach es env).length = es.length ∧ (assignEach es env).findIdx? (·.1) = none := by
  induction es with
  | nil => exact ⟨rfl, rfl⟩
  | cons e r ih =>
    rw [assignEach_cons (h e List.mem_cons_self)]
    obtain ⟨h1, h2⟩ := ih fun x hx => h x (List.mem_cons_of_mem _ hx)
    refine ⟨by rw [List.length_cons, h1, List.length_cons], ?_⟩
    rw [List.findIdx?_cons]
    simp [h2]
theorem evg_nm {i : Nat} {x : Str} (hN : X.N.Nodup) (hi : X.N[i]? = some x) (hx : Loc X.env.scope x) (hf : X.fn x = true ∨ X.env.scope.names.lookup x = some .local) : PGv X cf (.Name x pos) (.nm i) := by
  refine PG.of (pg_name hN hi hx hf) fun v σ H Q ⟨d, ρ, env, h, hr, er, rv, w⟩ => ?_
  have w : Wd X.K ρ H (.ok (env.set i (some d)) h) _ := w
  exact w.ok ρ H .refl hr _ (er.set i rv) fun vs c => wipe_set (by simpa [ownT] using c)
theorem evgs_nil : PGsv X cf [] .nil := by
  refine PGs.of pgs_nil fun vs σ H Q ⟨ds, ρ, env, h, hr, er, rv, w⟩ => ?_
  cases ds with
  | nil =>
    cases (show vs = [] from rv)
    have w : Wd X.K ρ H (.ok env h) _ := w
    exact ⟨rfl, w.ok ρ H .refl hr _ er fun _ _ => rfl⟩
  | cons d r =>
    have w : Wd X.K ρ H (.bad : R En) _ := w
    exact w.bad.elim
theorem evgs_cons {es : List Expr} (h1 : PGv X cf a t) (h2 : PGsv X cf es ts) (hs : isStar a = false) : PGsv X cf (a :: es) (.cons t ts) := by
  refine PGs.of (pgs_cons h1 h2 (by rw [assignEach_cons hs]; rfl)) fun vs σ H Q ⟨ds, ρ, env, h, hr, er, rv, w⟩ => ?_
  cases ds with
  | nil =>
    have w : Wd X.K ρ H (.bad : R En) _ := w
    exact w.bad.elim
  | cons d r =>
    obtain ⟨v, vr, rfl, rd, rr⟩ := rv
    refine ⟨v, vr, rfl, d, ρ, env, h, hr, er, rd, (Wd.bind w).imp fun env1 h1 ρ1 H1 s1 r1 w1 σ1 er1 o1 => ?_⟩
    refine ⟨r, ρ1, env1, h1, r1, er1, Reps.mono s1 r rr, w1.imp fun env2 h2 ρ2 H2 s2 r2 q σ2 er2 o2 => ?_⟩
    refine q σ2 er2 fun vs c => ?_
    have c : (ownT vs t && ownTs vs ts) = true := c
    simp only [Bool.and_eq_true] at c
    rw [o2 vs c.2, o1 vs c.1]
theorem asTs_len {cf : CF} : ∀ (ts : Ts) (xs : List D) (env : En) (h : Hh) (e' : En) (h' : Hh), asTs cf ts xs env h = .ok e' h' → xs.length = ts.len
  | .nil, [], _, _, _, _, _ => rfl
  | .nil, _ :: _, _, _, _, _, e => by cases (show R.bad = _ from e)
  | .cons t r, [], _, _, _, _, e => by cases (show R.bad = _ from e)
  | .cons t r, x :: xs, env, h, e', h', e => by
    obtain ⟨e1, h1, _, e2⟩ := R.bind_eq_ok (show (asT cf t x env h).bind _ = _ from e)
    rw [List.length_cons, asTs_len r xs _ _ _ _ e2]
    rfl
theorem evg_tp {es : List Expr} {k : Nat} (hc : X.calm = true) (h : PGsv X cf es ts) (hs : ∀ e ∈ es, isStar e = false) (hl : ts.len = es.length) : PGv X cf (.Tuple es k pos) (.tp ts) := by
  obtain ⟨q1, q2⟩ := assignEach_len (env := X.env) hs
  refine PG.of (pg_or (pg_tup hc h q1 q2) (pg_unl hc h q1 q2)) fun v σ H Q ⟨d, ρ, env, h, hr, er, rv, w0⟩ => ?_
  have w : Wd X.K ρ H (match itemsOf h d with
    | some xs => asTs cf ts xs env h
    | none => .bad) _ := w0
  clear w0
  cases e : itemsOf h d with
  | none => rw [e] at w; exact w.bad.elim
  | some xs =>
    rw [e] at w
    obtain ⟨e2, h2, e3⟩ : ∃ e2 h2, asTs cf ts xs env h = .ok e2 h2 := wd_eq w
    have hx : xs.length = es.length := (asTs_len _ _ _ _ _ _ e3).trans hl
    cases d with
    | tup ys =>
      cases e
      obtain ⟨a, vs, rfl, sa, ra⟩ := rv
      exact .inl ⟨a, vs, rfl, sa, by rw [← ra.length, hx], _, ρ, env, h, hr, er, ra, w⟩
    | rol ys =>
      cases e
      obtain ⟨a, vs, rfl, sa, ra⟩ := rv
      exact .inr ⟨a, vs, rfl, sa.sqL, by rw [← ra.length, hx], _, ρ, env, h, hr, er, ra, w⟩
    | obj n =>
      have e : (match h[n]? with
        | some (.lst xs) => some xs
        | none => none) = some xs := e
      split at e
      · rename_i ys q
        cases e
        obtain ⟨a, vs, rfl, _, sa, ra⟩ := Rep.seq hr rv q
        exact .inr ⟨a, vs, rfl, sa, by rw [← ra.length, hx], _, ρ, env, h, hr, er, ra, w⟩
      · cases e
    | _ => cases e
/-- a list's item stored -/
theorem set_val {K : PySem.W.Frag} {ρ : List Addr} {h : Hh} {H : Hp} {x y d : D} {v u t : V} {P : Unit → Hh → List Addr → Hp → Prop} (hr : HRel K ρ h H) (rv : Rep K ρ H x v) (ru : Rep K ρ H y u) (rt : Rep K ρ H d t) (w : Wd K ρ H (setop h x y d) P) : rSetL v u t H fun H' => ∃ h', Stp ρ H ρ H' ∧ HRel K ρ h' H' ∧ P () h' ρ H' := by
  unfold setop at w
  cases x with
  | obj n =>
    cases y with
    | int i =>
      cases (show u = .int i from ru)
      simp only at w
      split at w
      · rename_i xs e
        split at w
        · rename_i j ej
          obtain ⟨a, ea, rfl⟩ := rv
          obtain ⟨vs, ha, ra⟩ := (show ORel K ρ H a (.lst xs) from hr.at_ n a _ ea e)
          obtain ⟨r1, s1⟩ := hr.wrote ea e (ra.set rt j)
          exact ⟨a, vs, i, j, rfl, rfl, ha, by rw [← ra.length]; exact ej, _, s1, r1, w.ok ρ _ s1 r1⟩
        · exact w.bad.elim
      · exact w.bad.elim
    | _ => exact w.bad.elim
  | _ => cases y <;> exact w.bad.elim
theorem evg_sub (ha : PEv X cf a ia) (hb : PEv X cf b ib)
    (he : ∀ v, assign (.Subscript a b pos) X.env v = (do
      let ov ← holding [v] (eval a X.env)
      let iv ← holding [v, ov] (eval b X.env)
      standAt pos
      holding [v, ov, iv] (setItem ov iv v)
      release [v, ov, iv] [])) : PGv X cf (.Subscript a b pos) (.sub ia ib) := by
  refine PG.of (pg_sub ha hb set_list he) fun v σ H Q ⟨d, ρ, env, h, hr, er, rv, w⟩ => ?_
  refine ⟨ρ, env, h, hr, er, (Wd.bind w).imp fun x h1 ρ1 H1 s1 r1 w1 o ro => ?_⟩
  refine ⟨ρ1, env, h1, r1, er.mono s1, (Wd.bind w1).imp fun y h2 ρ2 H2 s2 r2 w2 i ri => ?_⟩
  obtain ⟨q, xs, k, j, e1, e2, e3, e4, h', s3, r3, w3⟩ := set_val r2 (Rep.mono s2 x ro) ri (Rep.mono s2 d (Rep.mono s1 d rv)) (Wd.bind w2)
  refine ⟨q, xs, k, j, e1, e2, e3, e4, ?_⟩
  exact w3.ok ρ2 _ .refl r3 σ (((er.mono s1).mono s2).mono s3) fun _ _ => rfl
end
end Ev

set_option Elab.async false
set_option linter.all false
set_option maxRecDepth 100000
set_option maxHeartbeats 4000000
namespace Ev
open PySem PySem.Spec PyProof.Rows L2

/-! ### a list that is not told of -/
section
variable {K : PySem.W.Frag} {ρ ρ' ρ1 : List Addr} {H H' H1 : Hp} {h : Hh} {C : Addr} {vs us : List V}
mutual
theorem Rep.ext (p : ρ <+: ρ') (x : Ext H H') : ∀ (d : D) {v : V}, Rep K ρ H d v → Rep K ρ' H' d v
  | .non, _, e => e
  | .bl _, _, e => e
  | .int _, _, e => e
  | .str _, _, e => e
  | .obj n, _, ⟨a, e, q⟩ => ⟨a, pre_get p e, q⟩
  | .tup ds, _, ⟨a, vs, e, q, r⟩ => ⟨a, vs, e, x.sqT q, Reps.ext p x ds r⟩
  | .rol ds, _, ⟨a, vs, e, q, r⟩ => ⟨a, vs, e, x.roL q, Reps.ext p x ds r⟩
theorem Reps.ext (p : ρ <+: ρ') (x : Ext H H') : ∀ (ds : List D) {vs : List V}, Reps K ρ H ds vs → Reps K ρ' H' ds vs
  | [], _, e => e
  | d :: ds, _, ⟨v, r, e, q, y⟩ => ⟨v, r, e, Rep.ext p x d q, Reps.ext p x ds y⟩
end
theorem HRel.off (r : HRel K ρ h H) (e : H C = some (.lst vs)) (n : C ∉ ρ) : HRel K ρ h (upd H C (.lst us)) :=
  ⟨r.len, fun m a o e1 e2 => by
    have na : a ≠ C := fun z => n (z ▸ List.mem_of_getElem? e1)
    cases o with
    | lst xs =>
      obtain ⟨ws, q1, q2⟩ := r.at_ m a _ e1 e2
      exact ⟨ws, by rw [upd_ne na]; exact q1, Reps.ext (List.prefix_refl _) (.wrote e) xs q2⟩, r.inj⟩
theorem Stp.off (s : Stp ρ1 H1 ρ H) (n1 : H1 C = none) (e : H C = some (.lst vs)) : Stp ρ1 H1 ρ (upd H C (.lst us)) :=
  ⟨s.pre, s.ext.trans (.wrote e), fun a o q na => by rw [upd_ne (ne_of_none q n1)]; exact s.fr a o q na, s.nw⟩
end
/-- tests -/
def tB (K : PySem.W.Frag) (f : En → Hh → R Bool) : TT := fun σ H Q => ∃ ρ env h, HRel K ρ h H ∧ ERel K ρ H env σ ∧ Wd K ρ H (f env h) fun b _ ρ' H' => Q b H'
/-- a comprehension's reading: its items, and the new list, not told of -/
def tC (K : PySem.W.Frag) (f : En → Hh → R (List D)) : TE := fun σ H Q => ∃ ρ env h, HRel K ρ h H ∧ ERel K ρ H env σ ∧ Wd K ρ H (f env h) fun xs _ ρ' H' => ∀ (C : Addr) vs, H' C = some (.lst vs) → C ∉ ρ' → H C = none → Reps K ρ' H' xs vs → Q (.ref C) H'
section
variable {X : Cx} {cf : CF}
abbrev PTsv (X : Cx) (cf : CF) (ifs : List Expr) (i : Eo) : Prop := PTs X ifs (tB X.K (evT cf i))
theorem pts_of {ifs : List Expr} {t t' : TT} (h : PTs X ifs t) (f : ∀ σ H Q, t' σ H Q → t σ H Q) : PTs X ifs t' := ⟨fun pins s σ H Q I q => h.run pins s σ H Q I (f σ H Q q)⟩
theorem evts_nil : PTsv X cf [] .no := by
  refine pts_of pts_nil fun σ H Q ⟨ρ, env, h, hr, er, w⟩ => ?_
  have w : Wd X.K ρ H (.ok true h) _ := w
  exact w.ok ρ H .refl hr
theorem evts_one {c : Expr} {i : E} (hc : PTv X cf c i) : PTsv X cf [c] (.so i) := by
  refine pts_of (pts_one hc) fun σ H Q ⟨ρ, env, h, hr, er, w⟩ => ?_
  refine ⟨ρ, env, h, hr, er, (Wd.bind w).imp fun x h1 ρ1 H1 s1 r1 w1 => ?_⟩
  cases x with
  | bl b => exact ⟨b, rfl, w1.ok ρ1 H1 .refl r1⟩
  | _ => exact w1.bad.elim
theorem own_wipe {σ3 σ : L2.St} {tg : T} {own : List Nat} (ho : ownT own tg = true) (o3 : ∀ vs, ownT vs tg = true → wipe σ3 vs = wipe (wipe σ own) vs) : wipe σ3 own = wipe σ own := by
  rw [o3 own ho]
  apply List.ext_getElem?
  intro j
  rw [wipe_get, wipe_get, wipe_length]
  split <;> rename_i c
  · rfl
  · rfl
theorem lc_imp {K : PySem.W.Frag} {elt : E} {tg : T} {it : It} {ifs : Eo} {own : List Nat} (ho : ownT own tg = true) (σ : L2.St) (H : Hp) (Q : VK) (q : tC K (evC cf (.mk elt tg it ifs own)) σ H Q) :
    tLc (tI K (evI cf it)) (tG K (asT cf tg) fun vs => ownT vs tg) (tB K (evT cf ifs)) (tE K (evE cf elt)) own σ H Q := by
  obtain ⟨ρ0, env, h0, hr0, er0, w⟩ := q
  refine ⟨ρ0, env, h0, hr0, er0, (Wd.bind w).imp fun p h1 ρ1 H1 s1 r1 w1 J yk C cn => ?_⟩
  obtain ⟨items, deps⟩ := p
  have w1 : Wd K ρ1 H1 (if items.length ≤ sizeLine then _ else _) _ := w1
  split at w1
  · rename_i hlen
    obtain ⟨xs, hf, e, fin⟩ := w1
    generalize hF : (fun x h2 => (asT cf tg x (wipeE env own) h2).bind fun σ1 h3 => (evT cf ifs σ1 h3).bind fun b h4 =>
      if b then (evE cf elt σ1 h4).bind fun y h5 => R.ok (some y) h5 else .ok none h4) = F at e
    have cn0 : H C = none := by
      cases q : H C with
      | none => rfl
      | some o =>
        by_cases m : C ∈ ρ0
        · exfalso
          obtain ⟨i, ei⟩ := List.getElem?_of_mem m
          obtain ⟨vs, ev⟩ := r1.there (pre_get s1.pre ei)
          rw [cn] at ev; cases ev
        · rw [s1.fr C o q m] at cn; cases cn
    let W : Nat → Nat → Hp → Prop := fun i m H => m = items.length - i ∧ i ≤ items.length ∧ ∃ ρ h acc vs, Stp ρ1 H1 ρ H ∧ HRel K ρ h H ∧ H C = some (.lst vs) ∧ C ∉ ρ ∧ Reps K ρ H acc vs ∧ acc.length ≤ i ∧ compD deps F (items.drop i) acc h = .ok xs hf
    refine ⟨W, ⟨items.length, by simp, Nat.zero_le _, ρ1, h1, [], [], .new cn, r1.junk cn, upd_same, r1.notin cn, Reps.nil, Nat.le_refl _, e⟩, ?_⟩
    rintro i m H2 ⟨rfl, hi, ρ, h, acc, vs, st, hr, hC, nC, ra, hacc, ec⟩
    by_cases hlt : i < items.length
    · rw [List.drop_eq_getElem_cons hlt] at ec
      unfold compD at ec
      split at ec
      · rename_i dk
        obtain ⟨go, yld⟩ := (yk ρ h H2 st hr dk).2 i items[i] (by simp [hlt])
        refine .inr ⟨go, fun H => W (i + 1) (items.length - (i + 1)) H, fun H' n => ⟨_, by omega, n⟩, fun x H' y => ?_⟩
        obtain ⟨sx, hrx, rx⟩ := yld x H' y
        generalize eT : F items[i] h = rT at ec
        have eT : (asT cf tg items[i] (wipeE env own) h).bind (fun σ1 h3 => (evT cf ifs σ1 h3).bind fun b h4 =>
          if b then (evE cf elt σ1 h4).bind fun y h5 => R.ok (some y) h5 else .ok none h4) = rT := by rw [← eT, ← hF]
        cases rT with
        | bad => cases ec
        | ok r h5 =>
          obtain ⟨e1, h3, q1, q2⟩ := R.bind_eq_ok eT
          obtain ⟨b, h4, q3, q4⟩ := R.bind_eq_ok q2
          refine ⟨items[i], ρ, wipeE env own, h, hrx, (((er0.mono s1).mono st).mono sx).wipe own, rx, wd_sure q1 fun ρ3 H3 s3 r3 σ3 er3 o3 => ⟨own_wipe ho o3, ?_⟩⟩
          refine ⟨ρ3, e1, h3, r3, er3, wd_sure q3 fun ρ4 H4 s4 r4 => ?_⟩
          have hC4 : H4 C = some (.lst vs) := s4.fr C _ (s3.fr C _ (sx.fr C _ hC nC) (sx.new_no hC nC)) (s3.new_no (sx.fr C _ hC nC) (sx.new_no hC nC))
          have s04 : Stp ρ H2 ρ4 H4 := (sx.trans s3).trans s4
          have nC4 : C ∉ ρ4 := s04.new_no hC nC
          have ra4 := Reps.mono s04 acc ra
          cases b with
          | true =>
            rw [if_pos rfl] at q4
            show tE K (evE cf elt) σ3 H4 _
            obtain ⟨y, h6, q5, q6⟩ := R.bind_eq_ok q4
            cases q6
            refine ⟨ρ4, e1, h4, r4, er3.mono s4, wd_sure q5 fun ρ5 H5 s5 r5 v rv => ?_⟩
            have hC5 : H5 C = some (.lst vs) := s5.fr C _ hC4 nC4
            have nC5 : C ∉ ρ5 := s5.new_no hC4 nC4
            refine ⟨vs, hC5, ?_, rfl, hlt, ρ5, _, acc ++ [y], vs ++ [v], ((st.trans s04).trans s5).off cn hC5, r5.off hC5 nC5, upd_same, nC5, Reps.ext (List.prefix_refl _) (.wrote hC5) _ ((Reps.mono s5 acc ra4).append (.one rv)), ?_, ec⟩
            · rw [← ra.length]; omega
            · rw [List.length_append, List.length_singleton]; omega
          | false =>
            rw [if_neg Bool.false_ne_true] at q4
            cases q4
            show W (i + 1) (items.length - (i + 1)) H4
            exact ⟨rfl, hlt, ρ4, _, acc, vs, st.trans s04, r4, hC4, nC4, ra4, by omega, ec⟩
      · cases ec
    · have hi2 : i = items.length := by omega
      subst hi2
      rw [List.drop_length] at ec
      unfold compD at ec
      split at ec
      · rename_i dk
        injection ec with e1 e2
        subst e1 e2
        exact .inl ⟨(yk ρ h H2 st hr dk).1, fin ρ H2 st hr C vs hC nC cn0 ra⟩
      · cases ec
  · exact w1.bad.elim
end
end Ev

set_option Elab.async false
set_option linter.all false
set_option maxRecDepth 100000
set_option maxHeartbeats 4000000
namespace Ev
open PySem PySem.Spec PyProof.Rows L2

section
variable {K : PySem.W.Frag} {ρ ρ' ρ1 : List Addr} {H H' H1 : Hp} {h : Hh} {C : Addr} {vs us : List V} {xs : List D}
/-- a list that stands is told of from now on -/
theorem HRel.tell (r : HRel K ρ h H) (e : H C = some (.lst vs)) (n : C ∉ ρ) (ra : Reps K ρ H xs vs) : HRel K (ρ ++ [C]) (h ++ [.lst xs]) H := by
  refine ⟨by simp [r.len], fun m a o e1 e2 => ?_, fun m k a e1 e2 => ?_⟩
  · rcases get_push e1 with ⟨l1, e1⟩ | ⟨l1, e1⟩
    · rcases get_push e2 with ⟨_, e2⟩ | ⟨l2, _⟩
      · cases o with
        | lst ys =>
          obtain ⟨ws, q1, q2⟩ := r.at_ m a _ e1 e2
          exact ⟨ws, q1, Reps.ext (List.prefix_append _ _) .refl ys q2⟩
      · rw [r.len] at l1; omega
    · rcases get_push e2 with ⟨l2, _⟩ | ⟨_, e2⟩
      · rw [r.len] at l1; omega
      · subst e1 e2; exact ⟨vs, e, Reps.ext (List.prefix_append _ _) .refl xs ra⟩
  · rcases get_push e1 with ⟨l1, e1⟩ | ⟨l1, e1⟩
    · rcases get_push e2 with ⟨l2, e2⟩ | ⟨l2, e2⟩
      · exact r.inj m k a e1 e2
      · exact absurd (e2 ▸ List.mem_of_getElem? e1) n
    · rcases get_push e2 with ⟨l2, e2⟩ | ⟨l2, e2⟩
      · exact absurd (e1 ▸ List.mem_of_getElem? e2) n
      · omega
theorem Stp.tell (s : Stp ρ H ρ' H') (n : H C = none) : Stp ρ H (ρ' ++ [C]) H' :=
  ⟨s.pre.trans (List.prefix_append _ _), s.ext, s.fr, fun a m => by
    rcases List.mem_append.mp m with q | q
    · exact s.nw a q
    · have : a = C := by simpa using q
      exact .inr (this ▸ n)⟩
/-- the value of [..] -/
theorem tC_val {f : En → Hh → R (List D)} {σ : L2.St} {Q : VK} (q : tE K (fun env h => (f env h).bind fun xs h1 => .ok (.obj h1.length) (h1 ++ [.lst xs])) σ H Q) : tC K f σ H Q := by
  obtain ⟨ρ, env, h, hr, er, d, h2, e2, fin⟩ := q
  obtain ⟨xs, h3, e3, e4⟩ := R.bind_eq_ok e2
  cases e4
  refine ⟨ρ, env, h, hr, er, wd_sure e3 fun ρ1 H1 s1 r1 C vs hC nC n0 ra => fin (ρ1 ++ [C]) H1 (s1.tell n0) (r1.tell hC nC ra) (.ref C) ⟨C, ?_, rfl⟩⟩
  rw [← r1.len, List.getElem?_append_right (Nat.le_refl _), Nat.sub_self]
  rfl
end
section
variable {X : Cx} {cf : CF}
/-- a comprehension's parts -/
structure LcOk (X : Cx) (cf : CF) (elt tg iter : Expr) (ifs : List Expr) (scope : Scope) (own : List (Str × Nat)) (c : Cp) : Prop where
  calm : X.calm = true
  nodup : X.N.Nodup
  blk : BlkOk X.N X.env.scope scope own
  parts : ∃ (ie : E) (it : T) (ii : It) (iff : Eo), c = .mk ie it ii iff (own.map (·.2)) ∧ ownT (own.map (·.2)) it = true ∧ PIv X cf tg iter ii ∧
    (∀ (s : Shared) (H : Hp) (C : Addr) (cl : List (Str × Addr)) (fp : List Addr), PGv (X.blk s H scope (compEnvC scope cl C X.env) fp) cf tg it) ∧
    (∀ (s : Shared) (H : Hp) (C : Addr) (cl : List (Str × Addr)) (fp : List Addr), PTsv (X.blk s H scope (compEnvC scope cl C X.env) fp) cf ifs iff) ∧
    (∀ (s : Shared) (H : Hp) (C : Addr) (cl : List (Str × Addr)) (fp : List Addr), PEv (X.blk s H scope (compEnvC scope cl C X.env) fp) cf elt ie)
  fs : ∀ x, foldedSetIterable iter X.env x = pure x
variable {elt tg iter : Expr} {ifs : List Expr} {scope : Scope} {own : List (Str × Nat)} {c : Cp} {pos spos p : Pos}
theorem ev_lcC (k : LcOk X cf elt tg iter ifs scope own c) : PE X (.ListComp elt [⟨tg, iter, ifs, 0⟩] scope pos) (tC X.K (evC cf c)) := by
  obtain ⟨ie, it, ii, iff, rfl, ho, hi, hg, ht, he⟩ := k.parts
  exact PE.of (pe_lc k.calm k.nodup hi k.blk hg ht he k.fs) fun σ H Q q => lc_imp ho σ H Q q
theorem ev_comp (k : LcOk X cf elt tg iter ifs scope own c) : PEv X cf (.ListComp elt [⟨tg, iter, ifs, 0⟩] scope pos) (.comp c) :=
  PE.of (ev_lcC k) fun σ H Q q => tC_val q
theorem tC_bq {b : Bi} {r : List V → Hp → VK → Prop} (hb : CbS X.K b r) {σ : L2.St} {H : Hp} {Q : VK} (q : tE X.K (evE cf (.bq b c)) σ H Q) : tC X.K (evC cf c) σ H fun v H1 => r [v] H1 Q := by
  obtain ⟨ρ, env, h, hr, er, w⟩ := q
  refine ⟨ρ, env, h, hr, er, (Wd.bind w).imp fun xs h1 ρ1 H1 s1 r1 w1 C vs hC nC n0 ra => ?_⟩
  exact hb ρ1 h1 H1 xs vs C Q r1 ra (.inl (.inl hC)) w1
theorem ev_bqB {b : Bi} {id : String} {x : Str} (k : LcOk X cf elt tg iter ifs scope own c) (hb : BiOk X b) (hf : fvB b = .builtin id) (hg : Gl X x) (hm : X.mg x = none) (hv : bootBuiltins x = some (.builtin id))
    (hn : x ≠ "__name__") (hd : (x == ("__debug__" : Str)) = false) : PEv X cf (.Call (.Name x p) [.ListComp elt [⟨tg, iter, ifs, 0⟩] scope spos] [] pos) (.bq b c) := by
  obtain ⟨r, hc, _, hs'⟩ := hb
  rw [hf] at hc
  exact PE.of (pe_callB hc hg hm hv (pa_cons (ev_lcC k) pa_nil) hn hd) fun σ H Q q => tC_bq hs' q
theorem ev_bqT {b : Bi} {id : String} {x : Str} (k : LcOk X cf elt tg iter ifs scope own c) (hb : BiOk X b) (hf : fvB b = .type id) (hg : Gl X x) (hm : X.mg x = none) (hv : bootBuiltins x = some (.type id))
    (hn : x ≠ "__name__") (hd : (x == ("__debug__" : Str)) = false) : PEv X cf (.Call (.Name x p) [.ListComp elt [⟨tg, iter, ifs, 0⟩] scope spos] [] pos) (.bq b c) := by
  obtain ⟨r, hc, _, hs'⟩ := hb
  rw [hf] at hc
  exact PE.of (pe_callTy hc hg hm hv (pa_cons (ev_lcC k) pa_nil) hn hd) fun σ H Q q => tC_bq hs' q

/-! ### statements -/
def QF (K : PySem.W.Frag) (D : Ends) : Fl → Hh → List Addr → Hp → Prop := fun f _ ρ' H' => match f with
  | .nx env' => ∀ σ', ERel K ρ' H' env' σ' → D.nx σ' H'
  | .rt d => ∀ v, Rep K ρ' H' d v → D.rt v H'
  | .bk env' => ∀ σ', ERel K ρ' H' env' σ' → D.bk σ' H'
  | .ct env' => ∀ σ', ERel K ρ' H' env' σ' → D.ct σ' H'
def tS (K : PySem.W.Frag) (f : En → Hh → R Fl) : TS := fun D σ H => ∃ ρ env h, HRel K ρ h H ∧ ERel K ρ H env σ ∧ Wd K ρ H (f env h) (QF K D)
end
section
variable {X : Cx} {cf : CF} {w : Nat} {a b c e tg : Expr} {ia ib ic ie : E} {t : T} {pos p : Pos}
abbrev PSv (X : Cx) (cf : CF) (w : Nat) (st : Stmt) (s : S) : Prop := PS X st (tS X.K (exS cf w s))
abbrev PSsv (X : Cx) (cf : CF) (w : Nat) (st : List Stmt) (s : Ss) : Prop := PSs X st (tS X.K (exSs cf w s))
theorem asg_imp {K : PySem.W.Frag} {i : Nat} {te : TE} {f : En → Hh → R Ev.D} (D : Ends) (σ : L2.St) (H : Hp)
    (q : tS K (fun env h => (f env h).bind fun x h1 => (R.ok (env.set i (some x)) h1).bind fun σ1 h2 => .ok (.nx σ1) h2) D σ H) : tE K f σ H fun x H1 => gName i x σ H1 D.nx := by
  obtain ⟨ρ, env, h, hr, er, w⟩ := q
  refine ⟨ρ, env, h, hr, er, (Wd.bind w).imp fun d h1 ρ1 H1 s1 r1 w1 v rv => ?_⟩
  have w1 : Wd K ρ1 H1 (.ok (.nx (env.set i (some d))) h1) (QF K D) := w1
  exact w1.ok ρ1 H1 .refl r1 _ ((er.mono s1).set i rv)
theorem evs_set {i : Nat} {x : Str} {pos' : Pos} (hN : X.N.Nodup) (hi : X.N[i]? = some x) (hx : Loc X.env.scope x) (he : PEv X cf e ie) (hs : swapsWith e (some (.Name x pos')) pos.line X.env = pure false) (hf : X.fn x = true ∨ X.env.scope.names.lookup x = some .local) :
    PSv X cf w (.Assign [.Name x pos'] e pos) (.asg (.nm i) ie) :=
  PS.of (ps_set hN hi hx he hs hf) fun D σ H q => asg_imp (te := tE X.K (evE cf ie)) D σ H q
theorem evs_asg (he : PEv X cf e ie) (hg : PGv X cf tg t) (hst : isStar tg = false) (hs : swapsWithSole [tg] e pos.line X.env = pure false) (hw : swappedStores [tg] e X.env = pure none) : PSv X cf w (.Assign [tg] e pos) (.asg t ie) := by
  refine PS.of (ps_asg he hg hs hw (by rw [assignEach_cons hst]; rfl)) fun D σ H ⟨ρ, env, h, hr, er, w⟩ => ?_
  refine ⟨ρ, env, h, hr, er, (Wd.bind w).imp fun d h1 ρ1 H1 s1 r1 w1 v rv => ?_⟩
  refine ⟨d, ρ1, env, h1, r1, er.mono s1, rv, (Wd.bind w1).imp fun e2 h2 ρ2 H2 s2 r2 w2 σ2 er2 _ => ?_⟩
  exact w2.ok ρ2 H2 .refl r2 σ2 er2
theorem evs_par2 {i j : Nat} {x y : Str} {px py pt : Pos} {kt k2 pt2} (hc : X.calm = true) (hN : X.N.Nodup) (hi : X.N[i]? = some x) (hj : X.N[j]? = some y) (hij : i ≠ j)
    (hx : X.env.scope.names.lookup x = some .local) (hy : X.env.scope.names.lookup y = some .local) (ha : PEv X cf a ia) (hb : PEv X cf b ib) (hsa : isStar a = false) (hsb : isStar b = false)
    (hw : swappedStores [.Tuple [.Name x px, .Name y py] kt pt] (.Tuple [a, b] k2 pt2) X.env = pure (some [x, y]))
    (hs : swapsWithSole [.Tuple [.Name x px, .Name y py] kt pt] (.Tuple [a, b] k2 pt2) pos.line X.env = pure false) :
    PSv X cf w (.Assign [.Tuple [.Name x px, .Name y py] kt pt] (.Tuple [a, b] k2 pt2) pos) (.par [i, j] (.cons ia (.cons ib .nil))) := by
  refine PS.of (ps_par hc hN hi hj hij hx hy (ev_cons ha (ev_cons hb ev_nil hsb) hsa) hw hs) fun D σ H ⟨ρ, env, h, hr, er, w⟩ => ?_
  refine ⟨ρ, env, h, hr, er, (evs_bind w).imp fun xs h1 ρ1 H1 s1 r1 ⟨hl, w1⟩ vs rs => ?_⟩
  match xs, hl with
  | [x, y], _ =>
    obtain ⟨v, u, rfl, rv, ru⟩ := reps2 rs
    have w1 : Wd X.K ρ1 H1 (.ok (.nx ((env.set i (some x)).set j (some y))) h1) (QF X.K D) := w1
    exact ⟨v, u, rfl, w1.ok ρ1 H1 .refl r1 _ (((er.mono s1).set i rv).set j ru)⟩
theorem evs_par3 {i j l : Nat} {x y z : Str} {px py pz pt : Pos} {kt k2 pt2} (hc : X.calm = true) (hN : X.N.Nodup) (hi : X.N[i]? = some x) (hj : X.N[j]? = some y) (hl : X.N[l]? = some z) (hij : i ≠ j) (hil : i ≠ l) (hjl : j ≠ l)
    (hx : X.env.scope.names.lookup x = some .local) (hy : X.env.scope.names.lookup y = some .local) (hz : X.env.scope.names.lookup z = some .local) (ha : PEv X cf a ia) (hb : PEv X cf b ib) (hcc : PEv X cf c ic) (hsa : isStar a = false) (hsb : isStar b = false) (hsc : isStar c = false)
    (hw : swappedStores [.Tuple [.Name x px, .Name y py, .Name z pz] kt pt] (.Tuple [a, b, c] k2 pt2) X.env = pure (some [x, y, z]))
    (hs : swapsWithSole [.Tuple [.Name x px, .Name y py, .Name z pz] kt pt] (.Tuple [a, b, c] k2 pt2) pos.line X.env = pure false) :
    PSv X cf w (.Assign [.Tuple [.Name x px, .Name y py, .Name z pz] kt pt] (.Tuple [a, b, c] k2 pt2) pos) (.par [i, j, l] (.cons ia (.cons ib (.cons ic .nil)))) := by
  refine PS.of (ps_par3 hc hN hi hj hl hij hil hjl hx hy hz (ev_cons ha (ev_cons hb (ev_cons hcc ev_nil hsc) hsb) hsa) hw hs) fun D σ H ⟨ρ, env, h, hr, er, w⟩ => ?_
  refine ⟨ρ, env, h, hr, er, (evs_bind w).imp fun xs h1 ρ1 H1 s1 r1 ⟨hl, w1⟩ vs rs => ?_⟩
  match xs, hl with
  | [x, y, z], _ =>
    obtain ⟨v, _, rfl, rv, rs⟩ := rs
    obtain ⟨u, t, rfl, ru, rt⟩ := reps2 rs
    have w1 : Wd X.K ρ1 H1 (.ok (.nx (((env.set i (some x)).set j (some y)).set l (some z))) h1) (QF X.K D) := w1
    exact ⟨v, u, t, rfl, w1.ok ρ1 H1 .refl r1 _ ((((er.mono s1).set i rv).set j ru).set l rt)⟩
theorem evs_setLc {i : Nat} {y : Str} {py : Pos} {elt tg iter : Expr} {ifs : List Expr} {scope : Scope} {own : List (Str × Nat)} {c : Cp} {spos : Pos} (k : LcOk X cf elt tg iter ifs scope own c) (hy : X.N[i]? = some y) (hyl : X.env.scope.names.lookup y = some .local)
    (hsw : swapsWith (.ListComp elt [⟨tg, iter, ifs, 0⟩] scope pos) (some (.Name y py)) spos.line X.env = pure true) : PSv X cf w (.Assign [.Name y py] (.ListComp elt [⟨tg, iter, ifs, 0⟩] scope pos) spos) (.asg (.nm i) (.comp c)) := by
  obtain ⟨ie, it, ii, iff, rfl, ho, hi, hg, ht, he⟩ := k.parts
  exact PS.of (ps_setLc k.calm k.nodup hy hyl hsw hi k.blk hg ht he k.fs) fun D σ H q => lc_imp ho σ H _ (tC_val (asg_imp (te := tE X.K (evE cf (.comp (.mk ie it ii iff (own.map (·.2)))))) D σ H q))
theorem evs_ret (he : PEv X cf e ie) : PSv X cf w (.Return (some e) pos) (.ret ie) :=
  PS.of (ps_ret he) fun D σ H ⟨ρ, env, h, hr, er, w⟩ => ⟨ρ, env, h, hr, er, (Wd.bind w).imp fun d h1 ρ1 H1 s1 r1 w1 v rv => Wd.ok w1 ρ1 H1 .refl r1 v rv⟩
theorem evs_retn : PSv X cf w (.Return none pos) .retn :=
  PS.of ps_retN fun D σ H ⟨ρ, env, h, hr, er, w⟩ => Wd.ok w ρ H .refl hr .non rfl
theorem evs_pass : PSv X cf w (.Pass pos) .pass :=
  PS.of ps_pass fun D σ H ⟨ρ, env, h, hr, er, w⟩ => Wd.ok w ρ H .refl hr σ er
theorem evs_brk : PSv X cf w (.Break pos) .brk :=
  PS.of ps_break fun D σ H ⟨ρ, env, h, hr, er, w⟩ => Wd.ok w ρ H .refl hr σ er
theorem evss_nil : PSsv X cf w [] .nil :=
  PSs.of pss_nil fun D σ H ⟨ρ, env, h, hr, er, w⟩ => Wd.ok w ρ H .refl hr σ er
theorem evss_cons {st : Stmt} {rest : List Stmt} {s : S} {r : Ss} (h1 : PSv X cf w st s) (h2 : PSsv X cf w rest r) : PSsv X cf w (st :: rest) (.cons s r) := by
  refine PSs.of (pss_cons h1 h2) fun D σ H ⟨ρ, env, h, hr, er, w⟩ => ?_
  refine ⟨ρ, env, h, hr, er, (Wd.bind w).imp fun f h1 ρ1 H1 s1 r1 w1 => ?_⟩
  cases f with
  | nx env1 => exact fun σ' er' => ⟨ρ1, env1, h1, r1, er', w1⟩
  | rt d => exact Wd.ok w1 ρ1 H1 .refl r1
  | bk env1 => exact Wd.ok w1 ρ1 H1 .refl r1
  | ct env1 => exact Wd.ok w1 ρ1 H1 .refl r1
theorem evs_ite {x y : List Stmt} {ix iy : Ss} (hc : PTv X cf c ic) (hx : PSsv X cf w x ix) (hy : PSsv X cf w y iy) : PSv X cf w (.If c x y pos) (.ite ic ix iy) := by
  refine PS.of (ps_if hc hx hy) fun D σ H ⟨ρ, env, h, hr, er, w⟩ => ?_
  refine ⟨ρ, env, h, hr, er, (Wd.bind w).imp fun d h1 ρ1 H1 s1 r1 w1 => ?_⟩
  cases d with
  | bl b =>
    refine ⟨b, rfl, ?_⟩
    cases b with
    | true => rw [if_pos rfl]; exact ⟨ρ1, env, h1, r1, er.mono s1, w1⟩
    | false => rw [if_neg Bool.false_ne_true]; exact ⟨ρ1, env, h1, r1, er.mono s1, w1⟩
  | _ => exact w1.bad.elim
end
end Ev

set_option Elab.async false
set_option linter.all false
set_option maxRecDepth 100000
set_option maxHeartbeats 4000000
namespace Ev
open PySem PySem.Spec PyProof.Rows L2

section
variable {X : Cx} {cf : CF} {w : Nat} {a b c e tg : Expr} {ia ib ic ie : E} {t : T} {pos p : Pos}
theorem get_list : PGet X (rIxL X.K) := by
  intro pins s σ H x y v u Q I rx ry h
  obtain ⟨p, xs, i, z, rfl, rfl, hq, he, q⟩ := h
  cases rx
  obtain ⟨t, rfl⟩ := ry
  obtain ⟨its, r, pl, hz⟩ := I.list hq
  obtain ⟨j, h1, h2, h3, h4, h5⟩ := atI_get he
  obtain ⟨w, ew, rw'⟩ := r.get h2
  have hl := r.length
  have hn := line63
  have fin : EP X pins σ Q w s := ⟨z, H, I, rw', q⟩
  by_cases h0 : 0 ≤ i
  · have hj : i.toNat = j := by
      rw [seqIndex_of h0 h5] at h1
      exact Option.some.inj h1
    exact wpAny_getItem_list pl.isList h0 (by omega) (by rw [hj]; simpa using ew) fin
  · have hj : (i + (its.toArray.size : Int)).toNat = j := by
      rw [seqIndex_neg (by omega) h4] at h1
      rw [List.size_toArray, ← hl]
      exact Option.some.inj h1
    exact wpAny_getItem_list_neg pl.isList (by omega) (by rw [List.size_toArray] <;> omega) (by omega) (by rw [hj]; simpa using ew) fin
def AugOk (X : Cx) (o : Op) : Prop := ∃ r : TIp, PIp X (opr o) r ∧ ∀ (ρ : List Addr) (h : Hh) (H : Hp) (x y : D) (v u : V) (Q : VK), HRel X.K ρ h H → Rep X.K ρ H x v → Rep X.K ρ H y u → Wd X.K ρ H (augop o x y h) (QP X.K Q) → r v u H Q
theorem aug_add : AugOk X .add := by
  refine ⟨_, ip_add, fun ρ h H x y v u Q hr rx ry w => ?_⟩
  cases x with
  | int i =>
    cases y with
    | int j =>
      cases (show v = .int i from rx)
      cases (show u = .int j from ry)
      exact ⟨i, j, rfl, rfl, Wd.val w hr rfl⟩
    | _ => exact w.bad.elim
  | _ => cases y <;> exact w.bad.elim
theorem aug_sub : AugOk X .sub := by
  refine ⟨_, ip_sub, fun ρ h H x y v u Q hr rx ry w => ?_⟩
  cases x with
  | int i =>
    cases y with
    | int j =>
      cases (show v = .int i from rx)
      cases (show u = .int j from ry)
      exact ⟨i, j, rfl, rfl, Wd.val w hr rfl⟩
    | _ => exact w.bad.elim
  | _ => cases y <;> exact w.bad.elim
theorem evs_aug {o : Op} {i : Nat} {x : Str} {pos' : Pos} (ho : AugOk X o) (hN : X.N.Nodup) (hi : X.N[i]? = some x) (hx : Loc X.env.scope x) (he : PEv X cf e ie) (hf : X.fn x = true ∨ X.env.scope.names.lookup x = some .local) :
    PSv X cf w (.AugAssign (.Name x pos') (opr o) e pos) (.aug o i ie) := by
  obtain ⟨r, hp, hs⟩ := ho
  refine PS.of (ps_aug hN hi hx he hp hf) fun D σ H ⟨ρ, env, h, hr, er, w⟩ => ?_
  have w : Wd X.K ρ H ((getV env i h).bind _) _ := w
  unfold getV at w
  split at w
  · rename_i d ed
    obtain ⟨v, ev, rv⟩ := er.2 i d ed
    have w := (Wd.bind w).ok ρ H .refl hr
    refine ⟨v, ev, ρ, env, h, hr, er, (Wd.bind w).imp fun y h1 ρ1 H1 s1 r1 w1 u ru => ?_⟩
    refine hs ρ1 h1 H1 d y v u _ r1 (Rep.mono s1 d rv) ru ((Wd.bind w1).imp fun z h2 ρ2 H2 s2 r2 w2 t rt => ?_)
    have w2 : Wd X.K ρ2 H2 (.ok (.nx (env.set i (some z))) h2) (QF X.K D) := w2
    exact w2.ok ρ2 H2 .refl r2 _ (((er.mono s1).mono s2).set i rt)
  · exact w.bad.elim
theorem getop_val {K : PySem.W.Frag} {ρ : List Addr} {h : Hh} {H : Hp} {x y : D} {v u : V} {Q : VK} {P : D → Hh → List Addr → Hp → Prop} (hr : HRel K ρ h H) (rv : Rep K ρ H x v) (ru : Rep K ρ H y u) (w : Wd K ρ H (getop h x y) P) (q : ∀ d t, P d h ρ H → Rep K ρ H d t → Q t H) : rIxL K v u H Q := by
  cases x with
  | obj n =>
    replace w : Wd K ρ H (match ixop h (.obj n) y with | some d => .ok d h | none => .bad) P := w
    split at w
    · rename_i d e
      replace w := w.ok ρ H .refl hr
      cases y with
      | int i =>
        cases (show u = .int i from ru)
        have e : (match h[n]? with
          | some (.lst xs) => some xs
          | none => none).bind (fun xs => atI xs i) = some d := e
        split at e
        · rename_i xs q1
          obtain ⟨a, vs, rfl, _, sa, ra⟩ := Rep.seq hr rv q1
          obtain ⟨t, e1, rt⟩ := atI_rep ra (show atI xs i = some d from e)
          exact ⟨a, vs, i, t, rfl, rfl, sa, e1, q d t w rt⟩
        · cases e
      | _ => cases e
    · exact w.bad.elim
  | _ => exact w.bad.elim
theorem evs_augs {o : Op} {tpos : Pos} (ho : AugOk X o) (ha : PEv X cf a ia) (hb : PEv X cf b ib) (he : PEv X cf e ie)
    (hst : ∀ ov iv new, augStore b ov iv new = (do holding [new, ov, iv] (setItem ov iv new); release [new, ov, iv] []; pure .next)) : PSv X cf w (.AugAssign (.Subscript a b tpos) (opr o) e pos) (.augs o ia ib ie) := by
  obtain ⟨r, hp, hs⟩ := ho
  refine PS.of (ps_augS ha hb get_list he hp set_list hst) fun D σ H ⟨ρ, env, h, hr, er, w⟩ => ?_
  refine ⟨ρ, env, h, hr, er, (Wd.bind w).imp fun x h1 ρ1 H1 s1 r1 w1 v rv => ?_⟩
  refine ⟨ρ1, env, h1, r1, er.mono s1, (Wd.bind w1).imp fun y h2 ρ2 H2 s2 r2 w2 u ru => ?_⟩
  refine getop_val r2 (Rep.mono s2 x rv) ru (Wd.bind w2) fun d t w3 rt => ?_
  refine ⟨ρ2, env, h2, r2, (er.mono s1).mono s2, (Wd.bind w3).imp fun z h4 ρ4 H4 s4 r4 w4 q rq => ?_⟩
  refine hs ρ4 h4 H4 d z t q _ r4 (Rep.mono s4 d rt) rq ((Wd.bind w4).imp fun z2 h5 ρ5 H5 s5 r5 w5 q2 rq2 => ?_)
  obtain ⟨l, xs, k, j, e1, e2, e3, e4, h', s6, r6, w6⟩ := set_val r5 (Rep.mono s5 x (Rep.mono s4 x (Rep.mono s2 x rv))) (Rep.mono s5 y (Rep.mono s4 y ru)) rq2 (Wd.bind w5)
  refine ⟨l, xs, k, j, e1, e2, e3, e4, ?_⟩
  exact w6.ok ρ5 _ .refl r6 σ (((((er.mono s1).mono s2).mono s4).mono s5).mono s6)
theorem any_all {es : List Expr} {env : Env} {pos : Pos} (h : ∀ e ∈ es, isStar e = false) : (backTo pos (starEach es env)).all (fun x => !x.1) = true := by
  induction es with
  | nil => rfl
  | cons e r ih =>
    rw [star_cons (h e List.mem_cons_self)]
    have := ih fun x hx => h x (List.mem_cons_of_mem _ hx)
    unfold backTo at this ⊢
    rw [List.map_cons, List.all_cons, this]
    rfl
theorem wd1 {K : PySem.W.Frag} {ρ : List Addr} {H : Hp} {env : En} {h : Hh} {P : D → Hh → List Addr → Hp → Prop} (w : Wd K ρ H (evE cf ie env h) P) : Wd K ρ H (evEs cf (.cons ie .nil) env h) fun xs h' ρ' H' => ∃ y, xs = [y] ∧ P y h' ρ' H' := by
  obtain ⟨y, h1, e, q⟩ := w
  refine ⟨[y], h1, ?_, fun ρ' H' s r => ⟨y, rfl, q ρ' H' s r⟩⟩
  show (evE cf ie env h).bind _ = _
  rw [e]
  rfl
theorem evs_app {apos cpos : Pos} (ha : PEv X cf a ia) (he : PEv X cf e ie) (hs : isStar e = false)
    (hbase : attributeBase a "append" X.env (eval a X.env) = eval a X.env) (hline : (apos.endLine == cpos.line) = true) :
    PSv X cf w (.Expr (.Call (.Attribute a "append" apos) [e] [] cpos) pos) (.app ia ie) := by
  have h1 : ∀ x ∈ [e], isStar x = false := fun x hx => by simp at hx; subst hx; exact hs
  have hfew : ((backTo cpos (starEach [e] X.env)).all (fun x => !x.1) && (backToKw cpos (keywordEach [] X.env)).all (fun x => x.1.isSome)
      && decide ([e].length + ([] : List Keyword).length + (if ([] : List Keyword).isEmpty then 0 else 1) < 30)) = true := by rw [any_all h1]; rfl
  refine PS.of (ps_expr (pe_bm PySem.F.plainAttrs_list PySem.F.slot_list_append PySem.F.type_list_append mt_append ha (ev_cons he ev_nil hs) hbase hfew hline (star_cons hs) rfl) rfl) fun D σ H ⟨ρ, env, h, hr, er, w⟩ => ?_
  have w2 := (Wd.bind w)
  obtain ⟨x, h1, e1, w3⟩ := w2
  refine ⟨ρ, env, h, hr, er, wd_sure e1 fun ρ1 H1 s1 r1 v rv => ?_⟩
  have wx := w3 ρ1 H1 s1 r1
  obtain ⟨fl, hh, e2, _⟩ := id wx
  obtain ⟨y, h2, e3, e4⟩ := R.bind_eq_ok e2
  obtain ⟨un, h3, e5, e6⟩ := R.bind_eq_ok e4
  cases x with
  | obj n =>
    obtain ⟨q, eq, rfl⟩ := rv
    obtain ⟨vs0, hq0⟩ := r1.there eq
    refine ⟨.inl ⟨rfl, vs0, .inl (.inl hq0)⟩, ?_⟩
    refine ⟨ρ1, env, h1, r1, er.mono s1, (wd1 (Wd.bind wx)).imp fun xs h2 ρ2 H2 s2 r2 ⟨y, ey, w4⟩ us ru => ?_⟩
    subst ey
    obtain ⟨u, rfl, ru'⟩ := reps1 ru
    have w5 := Wd.bind w4
    simp only [appop] at w5
    split at w5
    · rename_i zs ez
      split at w5
      · rename_i cz
        obtain ⟨vs, hv, rz⟩ := (show ORel X.K ρ2 H2 q (.lst zs) from r2.at_ n q _ (pre_get s2.pre eq) ez)
        obtain ⟨r3, s3⟩ := r2.wrote (pre_get s2.pre eq) ez (rz.append (.one ru'))
        exact ⟨q, vs, u, rfl, rfl, hv, by rw [← rz.length]; exact cz, ((w5.ok ρ2 _ s3 r3).ok ρ2 _ .refl r3) σ (((er.mono s1).mono s2).mono s3)⟩
      · exact w5.bad.elim
    · exact w5.bad.elim
  | _ => cases e5
/-- a docstring -/
theorem evs_doc {x : Str} {j pos'} : PSv X cf w (.Expr (.Constant (.str x) j pos') pos) .pass :=
  PS.of ps_doc fun D σ H ⟨ρ, env, h, hr, er, w⟩ => Wd.ok w ρ H .refl hr σ er

/-! ### loops -/
theorem whileD_eq {c : En → Hh → R D} {f : En → Hh → R Fl} {n : Nat} {σ : En} {h : Hh} : whileD c f (n + 1) σ h = (c σ h).bind fun x h1 => match x with
    | .bl true => (f σ h1).bind fun g h2 => match g with
      | .nx σ' => whileD c f n σ' h2
      | .ct σ' => whileD c f n σ' h2
      | .bk σ' => .ok (.nx σ') h2
      | .rt d => .ok (.rt d) h2
    | .bl false => .ok (.nx σ) h1
    | _ => .bad := by
  rw [whileD]
  cases c σ h with
  | bad => rfl
  | ok x h1 =>
    cases x with
    | bl b =>
      cases b with
      | false => rfl
      | true =>
        show (match f σ h1 with
          | .ok (.nx σ') h' => whileD c f n σ' h'
          | .ok (.ct σ') h' => whileD c f n σ' h'
          | .ok (.bk σ') h' => .ok (.nx σ') h'
          | .ok (.rt d) h' => .ok (.rt d) h'
          | .bad => .bad) = (f σ h1).bind _
        cases f σ h1 with
        | bad => rfl
        | ok g h2 => cases g <;> rfl
    | _ => rfl
theorem loopD_eq {deps : Deps} {f : D → En → Hh → R Fl} {x : D} {xs : List D} {σ : En} {h : Hh} (dk : depOk h deps = true) : loopD deps f (x :: xs) σ h = (f x σ h).bind fun g h2 => match g with
      | .nx σ' => loopD deps f xs σ' h2
      | .ct σ' => loopD deps f xs σ' h2
      | .bk σ' => .ok (.nx σ') h2
      | .rt d => .ok (.rt d) h2 := by
  rw [loopD, if_pos dk]
  cases f x σ h with
  | bad => rfl
  | ok g h2 => cases g <;> rfl
theorem evs_whl {body : List Stmt} {ib : Ss} (hp : PassesOwn (model X.prog X.w) X.A X.env X.xe) (hc : PTv X cf c ic) (hb : PSsv X cf w body ib) : PSv X cf w (.While c body [] pos) (.whl ic ib) := by
  refine PS.of (ps_while hp hc hb) fun D σ H q => ?_
  refine ⟨fun m σ H => tS X.K (whileD (fun σ h => evE cf ic σ h) (fun σ h => exSs cf w ib σ h) m) D σ H, ⟨w, q⟩, ?_⟩
  rintro m σ H ⟨ρ, env, h, hr, er, w1⟩
  cases m with
  | zero => exact (Wd.bad w1).elim
  | succ m =>
    rw [whileD_eq] at w1
    refine ⟨ρ, env, h, hr, er, (Wd.bind w1).imp fun d h1 ρ1 H1 s1 r1 w2 => ?_⟩
    cases d with
    | bl b =>
      refine ⟨b, rfl, ?_⟩
      cases b with
      | false =>
        rw [if_neg Bool.false_ne_true]
        exact (Wd.ok w2 ρ1 H1 .refl r1) σ (er.mono s1)
      | true =>
        rw [if_pos rfl]
        refine ⟨fun σ' H' => tS X.K (whileD (fun σ h => evE cf ic σ h) (fun σ h => exSs cf w ib σ h) m) D σ' H', fun σ' H' n => ⟨m, Nat.lt_succ_self m, n⟩, ρ1, env, h1, r1, er.mono s1, (Wd.bind w2).imp fun g h2 ρ2 H2 s2 r2 w3 => ?_⟩
        cases g with
        | nx e1 => exact fun σ' er' => ⟨ρ2, e1, h2, r2, er', w3⟩
        | ct e1 => exact fun σ' er' => ⟨ρ2, e1, h2, r2, er', w3⟩
        | bk e1 => exact Wd.ok w3 ρ2 H2 .refl r2
        | rt d => exact Wd.ok w3 ρ2 H2 .refl r2
    | _ => exact w2.bad.elim
theorem evs_for {iter : Expr} {it : It} {body : List Stmt} {ib : Ss} (hp : PassesOwn (model X.prog X.w) X.A X.env X.xe) (hc : X.calm = true) (hi : PIv X cf tg iter it) (hg : PGv X cf tg t) (hb : PSsv X cf w body ib)
    (hs : ∀ x, foldedSetIterable iter X.env x = pure x) : PSv X cf w (.For tg iter body [] pos) (.loop t it ib) := by
  refine PS.of (ps_for hp hc hi hg hb hs) fun D σ H ⟨ρ, env, h, hr, er, w⟩ => ?_
  refine ⟨ρ, env, h, hr, er, (Wd.bind w).imp fun p h1 ρ1 H1 s1 r1 w1 J yk => ?_⟩
  obtain ⟨items, deps⟩ := p
  generalize hF : (fun x σ h => (asT cf t x σ h).bind fun σ1 h2 => exSs cf _ ib σ1 h2) = F at w1
  let N : Nat → L2.St → Hp → Prop := fun i σ H => ∃ ρ env h, Stp ρ1 H1 ρ H ∧ HRel X.K ρ h H ∧ ERel X.K ρ H env σ ∧ Wd X.K ρ H (loopD deps F (items.drop i) env h) (QF X.K D)
  refine ⟨fun i m σ H => m = items.length - i ∧ i ≤ items.length ∧ N i σ H, ⟨items.length, by simp, Nat.zero_le _, ρ1, env, h1, .refl, r1, er.mono s1, w1⟩, ?_⟩
  rintro i m σ H2 ⟨rfl, hi, ρ, env, h, st, hr, er, w2⟩
  by_cases hlt : i < items.length
  · rw [List.drop_eq_getElem_cons hlt] at w2
    by_cases dk : depOk h deps = true
    · rw [loopD_eq dk] at w2
      obtain ⟨go, yld⟩ := (yk ρ h H2 st hr dk).2 i items[i] (by simp [hlt])
      refine .inr ⟨go, N (i + 1), fun σ' H' n => ⟨items.length - (i + 1), by omega, rfl, hlt, n⟩, fun x H' y => ?_⟩
      obtain ⟨sx, hrx, rx⟩ := yld x H' y
      obtain ⟨fl, hh, e0, fin0⟩ := w2
      obtain ⟨g, h3, e1, e2⟩ := R.bind_eq_ok e0
      rw [← hF] at e1
      obtain ⟨σ1, h4, e3, e4⟩ := R.bind_eq_ok e1
      refine ⟨items[i], ρ, env, h, hrx, er.mono sx, rx, wd_sure e3 fun ρ3 H3 s3 r3 σ3 er3 _ => ?_⟩
      refine ⟨ρ3, σ1, h4, r3, er3, wd_sure e4 fun ρ4 H4 s4 r4 => ?_⟩
      have s04 : Stp ρ H2 ρ4 H4 := (sx.trans s3).trans s4
      have w5 : Wd X.K ρ4 H4 (match g with
        | .nx σ' => loopD deps F (items.drop (i + 1)) σ' h3
        | .ct σ' => loopD deps F (items.drop (i + 1)) σ' h3
        | .bk σ' => .ok (.nx σ') h3
        | .rt d => .ok (.rt d) h3) (QF X.K D) := ⟨fl, hh, e2, fun ρ' H' s r => fin0 ρ' H' (s04.trans s) r⟩
      cases g with
      | nx e5 => exact fun σ' er' => ⟨ρ4, e5, h3, st.trans s04, r4, er', w5⟩
      | ct e5 => exact fun σ' er' => ⟨ρ4, e5, h3, st.trans s04, r4, er', w5⟩
      | bk e1 => exact Wd.ok w5 ρ4 H4 .refl r4
      | rt d => exact Wd.ok w5 ρ4 H4 .refl r4
    · rw [loopD, if_neg dk] at w2
      exact w2.bad.elim
  · have hi2 : i = items.length := by omega
    subst hi2
    rw [List.drop_length, loopD] at w2
    split at w2
    · rename_i dk
      exact .inl ⟨(yk ρ h H2 st hr dk).1, w2.ok ρ H2 .refl hr σ er⟩
    · exact w2.bad.elim
end
end Ev

set_option Elab.async false
set_option linter.all false
set_option maxRecDepth 100000
set_option maxHeartbeats 4000000
namespace Ev
open PySem PySem.Spec PyProof.Rows L2

/-! ### what was made on the way and is not handed back -/
section
variable {K : PySem.W.Frag} {ρ ρ1 : List Addr} {H H1 : Hp} {h h' : Hh}
mutual
theorem Rep.lt : ∀ (d : D) {v : V}, Rep K ρ H d v → D.lt ρ.length d = true
  | .non, _, _ => rfl
  | .bl _, _, _ => rfl
  | .int _, _, _ => rfl
  | .str _, _, _ => rfl
  | .obj n, _, ⟨a, e, _⟩ => decide_eq_true (List.getElem?_eq_some_iff.mp e).1
  | .tup ds, _, ⟨a, vs, _, _, r⟩ => Reps.lt ds r
  | .rol ds, _, ⟨a, vs, _, _, r⟩ => Reps.lt ds r
theorem Reps.lt : ∀ (ds : List D) {vs : List V}, Reps K ρ H ds vs → D.lts ρ.length ds = true
  | [], _, _ => rfl
  | d :: ds, _, ⟨v, r, _, x, y⟩ => by
    show (D.lt ρ.length d && D.lts ρ.length ds) = true
    rw [Rep.lt d x, Reps.lt ds y]
    rfl
end
mutual
theorem Rep.shr (p : ρ <+: ρ1) : ∀ (d : D) {v : V}, D.lt ρ.length d = true → Rep K ρ1 H d v → Rep K ρ H d v
  | .non, _, _, x => x
  | .bl _, _, _, x => x
  | .int _, _, _, x => x
  | .str _, _, _, x => x
  | .obj n, _, l, ⟨a, e, x⟩ => ⟨a, by
      have hn : n < ρ.length := of_decide_eq_true l
      obtain ⟨t, rfl⟩ := p
      rwa [List.getElem?_append_left hn] at e, x⟩
  | .tup ds, _, l, ⟨a, vs, e, x, r⟩ => ⟨a, vs, e, x, Reps.shr p ds l r⟩
  | .rol ds, _, l, ⟨a, vs, e, x, r⟩ => ⟨a, vs, e, x, Reps.shr p ds l r⟩
theorem Reps.shr (p : ρ <+: ρ1) : ∀ (ds : List D) {vs : List V}, D.lts ρ.length ds = true → Reps K ρ1 H ds vs → Reps K ρ H ds vs
  | [], _, _, x => x
  | d :: ds, _, l, ⟨v, r, e, x, y⟩ => by
    have l : (D.lt ρ.length d && D.lts ρ.length ds) = true := l
    simp only [Bool.and_eq_true] at l
    exact ⟨v, r, e, Rep.shr p d l.1 x, Reps.shr p ds l.2 y⟩
end
theorem Stp.shr (s : Stp ρ H ρ1 H1) : Stp ρ H ρ H1 := ⟨List.prefix_refl _, s.ext, s.fr, fun _ m => .inl m⟩
theorem HRel.shr (r : HRel K ρ h H) (s : Stp ρ H ρ1 H1) (r1 : HRel K ρ1 h' H1) (e : h'.take h.length = h) : HRel K ρ h H1 := by
  refine ⟨r.len, fun n a o e1 e2 => ?_, r.inj⟩
  have hn : n < h.length := (List.getElem?_eq_some_iff.mp e2).1
  have e3 : h'[n]? = some o := by
    rw [← e, List.getElem?_take_of_lt hn] at e2
    exact e2
  cases o with
  | lst xs =>
    obtain ⟨vs, q1, q2⟩ := r1.at_ n a _ (pre_get s.pre e1) e3
    obtain ⟨us, _, q4⟩ := r.at_ n a _ e1 e2
    exact ⟨vs, q1, Reps.shr s.pre xs (Reps.lt xs q4) q2⟩
theorem fin_val {d : D} {v : V} {Q : VK} (r : HRel K ρ h H) (s : Stp ρ H ρ1 H1) (r1 : HRel K ρ1 h' H1) (x : Rep K ρ1 H1 d v) (w : Wd K ρ H (fin h d h') (QP K Q)) : Q v H1 := by
  unfold fin at w
  split at w
  · rename_i c
    exact w.ok ρ H1 s.shr (r.shr s r1 c.2) v (Rep.shr s.pre d (by rw [r.len]; exact c.1) x)
  · exact w.ok ρ1 H1 s r1 v x
end

/-! ### what a def promises -/
def CXn : CXT := fun _ _ _ _ _ _ => False
def En0 : XK := fun _ _ _ => False
/-- a def's promise, where no guard stands around -/
structure FnG (P : Program) (w : World) (K : PySem.W.Frag) (mg : Str → Option Value) (base : Heap) (k : Nat) (f : Addr) (fd : FuncData) (ps : List Str) (sp : List V → Hp → VK → Prop) : Prop where
  len : ∀ vs H Q, sp vs H Q → vs.length = ps.length
  run : ∀ (A : Around) (outer : List Env) (s : Shared) (H : Hp) (args : Args) (us : List Value) (vs : List V) (Q : VK), A.guards = some [] → Room k A → Env0 P w K mg base A outer s H → BindsTo s fd args (ps.zip us) → Vals vs us → sp vs H Q →
    codeAny (model P w) A (.call (.ref f) args) (CR CXn outer P w H s Q En0) s
theorem FnG.mono {P : Program} {w : World} {K : PySem.W.Frag} {mg : Str → Option Value} {base : Heap} {j k : Nat} {f : Addr} {fd : FuncData} {ps : List Str} {sp : List V → Hp → VK → Prop} (F : FnG P w K mg base j f fd ps sp) (h : j ≤ k) : FnG P w K mg base k f fd ps sp :=
  ⟨F.len, fun A outer s H args us vs Q hg hr => F.run A outer s H args us vs Q hg (hr.mono h)⟩
section
variable {X : Cx} {k : Nat} {f : Addr} {fd : FuncData} {ps ks : List Str} {sp : List V → Hp → VK → Prop} {x : Str} {p pos : Pos} {e : Expr} {es : List Expr} {kws : List Keyword} {t tk : TA}
theorem run_fnG {pins : List (Addr × Obj)} {σ : L2.St} {H : Hp} {s : Shared} {Q : VK} {us : List Value} {vs : List V} {args : Args} (F : FnG X.prog X.w X.K X.mg X.base k f fd ps sp) (hG : X.A.guards = some []) (hr : Room k X.A) (I : Inv X pins σ H s) (r : Vals vs us) (hb : us.length = ps.length → BindsTo s fd args (ps.zip us)) (h : sp vs H Q) :
    codeAny (model X.prog X.w) X.A (.call (.ref f) args) (fun r s' => match r with | .ok (.ret u) => EP X pins σ Q u s' | _ => False) s := by
  refine codeAny_mono (F.run X.A X.stack s H args us vs Q hG hr I.env0 (hb (by rw [← r.length]; exact F.len _ _ _ h)) r h) fun r s' hq => ?_
  cases r with
  | error e => exact False.elim hq
  | ok fl =>
    cases fl with
    | ret u => exact I.after hq
    | next => exact hq
    | brk => exact hq
    | cont => exact hq
theorem of_code {pins : List (Addr × Obj)} {σ : L2.St} {s : Shared} {Q : VK} {us : List Value} {kw : List (Str × Value)} (h : codeAny (model X.prog X.w) X.A (.call (.ref f) ⟨us, kw⟩) (fun r s' => match r with | .ok (.ret u) => EP X pins σ Q u s' | _ => False) s) : wpAny (model X.prog X.w) X.A (call (.ref f) us kw) (EP X pins σ Q) X.xe s := by
  refine wpAny_call (codeAny_mono h fun r s' hq => ?_)
  cases r with
  | error e => exact False.elim hq
  | ok fl =>
    cases fl with
    | ret u => exact hq
    | next => exact False.elim hq
    | brk => exact False.elim hq
    | cont => exact False.elim hq
def tCallG (sp : List V → Hp → VK → Prop) (t : TA) : TE := fun σ H Q => t σ H fun vs H1 => sp vs H1 Q
theorem pe_callG (F : FnG X.prog X.w X.K X.mg X.base k f fd ps sp) (hG : X.A.guards = some []) (hr : Room k X.A) (hg : Gl X x) (hm : X.mg x = some (.ref f)) (hk : PySem.W.keepIn X.K (.ref f) = true) (hb : Binds X.K fd ps [])
    (ha : PA X (e :: es) t) (hdb : (x == ("__debug__" : Str)) = false) (hs : isStar e = false) (hpl : (backTo pos (starEach es X.env)).any (·.1) = false) : PE X (.Call (.Name x p) (e :: es) [] pos) (tCallG sp t) := by
  refine ⟨fun pins s σ H Q I h => wpAny_Call_Name_kw (ld_glob I hg hm ?_ hdb)⟩
  refine PySem.W.callWith_K (h₀ := X.base) I.ok.mod.kin hk (thn (ha.run pos pins s σ H _ I h) fun us s1 ⟨vs, H1, I1, r, q⟩ => ⟨I1.kIn, ?_⟩) (star_cons hs) hpl
  refine of_code (run_fnG F hG hr I1 r (fun hl => ?_) q)
  have := hb s1 us I1.kIn (by rw [List.append_nil]; exact hl)
  rwa [List.append_nil] at this
/-- by keywords alone -/
def tCallGK (n : Nat) (sp : List V → Hp → VK → Prop) (pm : List Nat) (t : TA) : TE := fun σ H Q => t σ H fun vs H1 => vs.length = n ∧ sp (pm.filterMap fun i => vs[i]?) H1 Q
theorem Vals.pick {vs : List V} {us : List Value} (r : Vals vs us) : ∀ pm : List Nat, Vals (pm.filterMap fun i => vs[i]?) (pm.filterMap fun i => us[i]?)
  | [] => .nil
  | i :: pm => by
    rw [List.filterMap_cons, List.filterMap_cons]
    have hl := r.length
    cases e : vs[i]? with
    | none =>
      have : us[i]? = none := by
        rw [List.getElem?_eq_none_iff] at e ⊢
        omega
      rw [this]
      exact Vals.pick r pm
    | some v =>
      obtain ⟨u, eu, ru⟩ := r.get e
      rw [eu]
      exact .cons ru (Vals.pick r pm)
theorem pe_callGK {pm : List Nat} (F : FnG X.prog X.w X.K X.mg X.base k f fd ps sp) (hG : X.A.guards = some []) (hr : Room k X.A) (hg : Gl X x) (hm : X.mg x = some (.ref f)) (hk : PySem.W.keepIn X.K (.ref f) = true)
    (hb : ∀ (s : Shared) (ws : List Value), X.K.In s.heap → ws.length = ks.length → BindsTo s fd ⟨[], ks.zip ws⟩ (ps.zip (pm.filterMap fun i => ws[i]?))) (ha : PK X kws tk) (hdb : (x == ("__debug__" : Str)) = false)
    (hall : (backToKw pos (keywordEach kws X.env)).all (·.1.isSome) = true) (hks : (backToKw pos (keywordEach kws X.env)).filterMap (·.1) = ks) (hpl : (backToKw pos (keywordEach kws X.env)).any (·.1.isNone) = false) : PE X (.Call (.Name x p) [] kws pos) (tCallGK ks.length sp pm tk) := by
  refine ⟨fun pins s σ H Q I h => wpAny_Call_Name_kw (ld_glob I hg hm ?_ hdb)⟩
  refine PySem.W.callWith_KW0 (h₀ := X.base) I.ok.mod.kin hk hall (thn (ha.run pos pins s σ H _ I h) fun ws s1 ⟨vs, H1, I1, r, hl, q⟩ => ⟨I1.kIn, ?_⟩) hpl
  rw [hks]
  exact of_code (run_fnG F hG hr I1 (Vals.pick r pm) (fun _ => hb s1 ws I1.kIn (by rw [← r.length]; exact hl)) q)
end
/-- the body of a def keeps its promise -/
theorem fnG_of {P : Program} {w : World} {K : PySem.W.Frag} {mg : Str → Option Value} {base : Heap} {k : Nat} {f : Addr} {name qual : Str} {params : Arguments} {body : List Stmt} {scope : Scope} {dV kV doc pm cdv ct oc : Value} {an od : Option Addr} {osl : Array (Option Value)} {N ps : List Str} {sp : List V → Hp → VK → Prop}
    (lk : K.lookup f = some ⟨oc, od, .func (PySem.W.fnOf name qual params body scope dV kV doc pm an cdv ct), osl⟩) (hcd : PySem.W.codeIn K cdv qual = true) (S : FnScope N ps scope) (len : ∀ vs H Q, sp vs H Q → vs.length = ps.length)
    (hbody : ∀ (A : Around) (outer : List Env) (s : Shared) (H : Hp) (vs : List V) (Q : VK), A.guards = some [] → Room k (A.deeper (envOfC qual scope s.heap.objs.size f cdv)) → sp vs H Q →
      ∃ t, PSs (cxOf CXn P w K mg base N qual scope f cdv A outer s H En0) body t ∧ t { nx := fun _ H' => Q .non H', rt := Q } (start N vs) H) :
    FnG P w K mg base (k + 1) f (PySem.W.fnOf name qual params body scope dV kV doc pm an cdv ct) ps sp := by
  refine ⟨len, fun A outer s H args us vs Q hG hr e0 hb r hsp => ?_⟩
  have KX : K.In s.heap := e0.mod.kin.keeps fun b o e => (e0.bs b o e).left
  have par : ∀ y ∈ ps.zip us, scope.names.lookup y.1 = some .local ∨ (scope.names.lookup y.1 = some .cell ∧ ((cellsFrom (s.heap.objs.size + 1) scope.names []).lookup y.1).isSome = true) := by
    rintro ⟨n, v⟩ hy
    rcases S.par n (List.of_mem_zip hy).left with q | q
    · exact .inl q
    · exact .inr ⟨q, PySem.W.cellsFrom_some _ _ _ (.inl q)⟩
  refine codeAny_call_function hr.depth (KX _ _ lk) rfl S.co S.gen rfl (PySem.W.codeRec_of KX hcd) (hb _ _ _ _ (wpAny_newFunctionEnv_cells S.kind par fun env he s1 x => ?_))
  subst he
  obtain ⟨t, ht, hq⟩ := hbody A outer s H vs Q hG (hr.deeper _) hsp
  have I : Inv (cxOf CXn P w K mg base N qual scope f cdv A outer s H En0) [] (start N vs) H s1 := inv_start S hr.hd e0 (len vs H Q hsp) r x
  refine ⟨(e0.mod.nolimit.keeps fun b o e => (e0.bs b o e).left).keeps x.toInCall.keep, codeAny_func (wpAny_mono (ht.run [] s1 (start N vs) H _ I hq) (fun fl s' hs => ?_) fun e s' hs => hs)⟩
  cases fl with
  | ret u =>
    obtain ⟨v, σ', H', J, rv, q⟩ := hs
    exact ⟨v, H', J.os, J.bare, J.base, J.hok, rv, q⟩
  | next =>
    obtain ⟨σ', H', J, q⟩ := hs
    exact ⟨V.non, H', J.os, J.bare, J.base, J.hok, rfl, q⟩
  | brk => exact (let ⟨_, _, _, q⟩ := hs; False.elim q)
  | cont => exact (let ⟨_, _, _, q⟩ := hs; False.elim q)

/-! ### the evaluator's own calls -/
/-- what a def promises: what the evaluator tells -/
def spF (K : PySem.W.Frag) (g : List D → Hh → R D) (n : Nat) : List V → Hp → VK → Prop := fun vs H Q => vs.length = n ∧ ∃ ρ h ds, HRel K ρ h H ∧ Reps K ρ H ds vs ∧ Wd K ρ H (g ds h) (QP K Q)
theorem callF_len {T : Nat → Option Fd} {w k f : Nat} {fd : Fd} {ds : List D} {h : Hh} {d : D} {h' : Hh} (hf : T f = some fd) (e : callF T w k f ds h = .ok d h') : ds.length = fd.np := by
  cases k with
  | zero => cases e
  | succ k =>
    unfold callF at e
    rw [hf] at e
    simp only at e
    split at e
    · assumption
    · cases e
section
variable {X : Cx} {T : Nat → Option Fd} {w k j i : Nat} {fA : Addr} {fdt : FuncData} {ps : List Str} {fd : Fd} {x : Str} {p pos : Pos} {e : Expr} {es : List Expr} {ia : E} {is : Es}
theorem ev_call (hf : T i = some fd) (hn : ps.length = fd.np) (F : FnG X.prog X.w X.K X.mg X.base j fA fdt ps (spF X.K (callF T w k i) fd.np)) (hG : X.A.guards = some []) (hr : Room j X.A) (hg : Gl X x) (hm : X.mg x = some (.ref fA)) (hk : PySem.W.keepIn X.K (.ref fA) = true) (hb : Binds X.K fdt ps [])
    (ha : PAv X (callF T w k) (e :: es) is) (hdb : (x == ("__debug__" : Str)) = false) (hs : isStar e = false) (hpl : (backTo pos (starEach es X.env)).any (·.1) = false) : PEv X (callF T w k) (.Call (.Name x p) (e :: es) [] pos) (.call i is) := by
  refine PE.of (pe_callG F hG hr hg hm hk hb ha hdb hs hpl) fun σ H Q ⟨ρ, env, h, hr, er, w1⟩ => ?_
  refine ⟨ρ, env, h, hr, er, (Wd.bind w1).imp fun ds h1 ρ1 H1 s1 r1 w2 vs rs => ?_⟩
  obtain ⟨d, h2, e2⟩ := wd_eq w2
  exact ⟨by rw [← rs.length]; exact callF_len hf e2, ρ1, h1, ds, r1, rs, w2⟩
end
section
variable {X : Cx}
theorem PK.of {kws : List Keyword} {t t' : TA} (h : PK X kws t) (f : ∀ σ H Q, t' σ H Q → t σ H Q) : PK X kws t' := ⟨fun pos pins s σ H Q I q => h.run pos pins s σ H Q I (f σ H Q q)⟩
theorem evk_nil {cf : CF} : PK X [] (tEs X.K (evEs cf .nil)) := PK.of pk_nil fun σ H Q ⟨ρ, env, h, hr, er, w⟩ => Wd.ok w ρ H .refl hr [] rfl
theorem evk_cons {cf : CF} {z : Option Str} {e : Expr} {kp : Pos} {kws : List Keyword} {i : E} {is : Es} (ha : PEv X cf e i) (hs : PK X kws (tEs X.K (evEs cf is))) : PK X (⟨z, e, kp⟩ :: kws) (tEs X.K (evEs cf (.cons i is))) := by
  refine PK.of (pk_cons ha hs) fun σ H Q ⟨ρ, env, h, hr, er, w⟩ => ?_
  refine ⟨ρ, env, h, hr, er, (Wd.bind w).imp fun x h1 ρ1 H1 s1 r1 w1 v rv => ?_⟩
  refine ⟨ρ1, env, h1, r1, er.mono s1, (Wd.bind w1).imp fun xs h2 ρ2 H2 s2 r2 w2 vs rs => ?_⟩
  exact Wd.ok w2 ρ2 H2 .refl r2 _ (.cons (Rep.mono s2 x rv) rs)
theorem Reps.pick {K : PySem.W.Frag} {ρ : List Addr} {H : Hp} {ds : List D} {vs : List V} (r : Reps K ρ H ds vs) : ∀ pm : List Nat, Reps K ρ H (pm.filterMap fun i => ds[i]?) (pm.filterMap fun i => vs[i]?)
  | [] => rfl
  | i :: pm => by
    rw [List.filterMap_cons, List.filterMap_cons]
    have hl := r.length
    cases e : ds[i]? with
    | none =>
      have : vs[i]? = none := by
        rw [List.getElem?_eq_none_iff] at e ⊢
        omega
      rw [this]
      exact Reps.pick r pm
    | some v =>
      obtain ⟨u, eu, ru⟩ := r.get e
      rw [eu]
      exact .cons ru (Reps.pick r pm)
variable {T : Nat → Option Fd} {w k j i : Nat} {fA : Addr} {fdt : FuncData} {ps ks : List Str} {pm : List Nat} {fd : Fd} {x : Str} {p pos : Pos} {kws : List Keyword} {is : Es}
theorem ev_callk (hf : T i = some fd) (hn : ps.length = fd.np) (F : FnG X.prog X.w X.K X.mg X.base j fA fdt ps (spF X.K (callF T w k i) fd.np)) (hG : X.A.guards = some []) (hr : Room j X.A) (hg : Gl X x) (hm : X.mg x = some (.ref fA)) (hk : PySem.W.keepIn X.K (.ref fA) = true)
    (hb : ∀ (s : Shared) (ws : List Value), X.K.In s.heap → ws.length = ks.length → BindsTo s fdt ⟨[], ks.zip ws⟩ (ps.zip (pm.filterMap fun i => ws[i]?))) (ha : PK X kws (tEs X.K (evEs (callF T w k) is))) (hdb : (x == ("__debug__" : Str)) = false) (hl : is.len = ks.length)
    (hall : (backToKw pos (keywordEach kws X.env)).all (·.1.isSome) = true) (hks : (backToKw pos (keywordEach kws X.env)).filterMap (·.1) = ks) (hpl : (backToKw pos (keywordEach kws X.env)).any (·.1.isNone) = false) : PEv X (callF T w k) (.Call (.Name x p) [] kws pos) (.callk i pm is) := by
  refine PE.of (pe_callGK (pm := pm) F hG hr hg hm hk hb ha hdb hall hks hpl) fun σ H Q ⟨ρ, env, h, hr, er, w1⟩ => ?_
  refine ⟨ρ, env, h, hr, er, (evs_bind w1).imp fun ds h1 ρ1 H1 s1 r1 ⟨ln, w2⟩ vs rs => ?_⟩
  obtain ⟨d, h2, e2⟩ := wd_eq w2
  have rp := rs.pick pm
  exact ⟨by rw [← rs.length, ln, hl], by rw [← rp.length]; exact callF_len hf e2, ρ1, h1, _, r1, rp, w2⟩
end
/-- a def's body, read -/
theorem fnG_body {T : Nat → Option Fd} {w k i : Nat} {fd : Fd} (hf : T i = some fd) {P : Program} {W : World} {K : PySem.W.Frag} {mg : Str → Option Value} {base : Heap} {f : Addr} {name qual : Str} {params : Arguments} {body : List Stmt} {scope : Scope} {dV kV doc pm cdv ct oc : Value} {an od : Option Addr} {osl : Array (Option Value)} {N ps : List Str}
    (lk : K.lookup f = some ⟨oc, od, .func (PySem.W.fnOf name qual params body scope dV kV doc pm an cdv ct), osl⟩) (hcd : PySem.W.codeIn K cdv qual = true) (S : FnScope N ps scope) (hN : N.length = fd.nl) (hp : ps.length = fd.np)
    (hbody : ∀ (A : Around) (outer : List Env) (s : Shared) (H : Hp), A.guards = some [] → Room k (A.deeper (envOfC qual scope s.heap.objs.size f cdv)) →
      PSsv (cxOf CXn P W K mg base N qual scope f cdv A outer s H En0) (callF T w k) w body fd.body) :
    FnG P W K mg base (k + 1) f (PySem.W.fnOf name qual params body scope dV kV doc pm an cdv ct) ps (spF K (callF T w (k + 1) i) fd.np) := by
  refine fnG_of lk hcd S (fun vs H Q q => q.1.trans hp.symm) fun A outer s H vs Q hG hr q => ⟨_, hbody A outer s H hG hr, ?_⟩
  obtain ⟨hl, ρ, h, ds, hr, rs, w1⟩ := q
  have hd : ds.length = fd.np := by rw [rs.length]; exact hl
  have w2 : Wd K ρ H (match exSs (callF T w k) w fd.body (ds.map some ++ List.replicate (fd.nl - fd.np) none) h with
        | .ok (.rt d) h' => fin h d h'
        | .ok (.nx _) h' => fin h .non h'
        | _ => .bad) (QP K Q) := by
    have w1 : Wd K ρ H (callF T w (k + 1) i ds h) (QP K Q) := w1
    unfold callF at w1
    rw [hf] at w1
    simp only [hd, if_true] at w1
    exact w1
  generalize eb : exSs (callF T w k) w fd.body (ds.map some ++ List.replicate (fd.nl - fd.np) none) h = rb at w2
  have er : ERel K ρ H (ds.map some ++ List.replicate (fd.nl - fd.np) none) (start N vs) := by
    unfold L2.start
    rw [hN, hl]
    refine ⟨by simp [rs.length], fun n d e => ?_⟩
    by_cases hn : n < ds.length
    · rw [List.getElem?_append_left (by simpa using hn), List.getElem?_map] at e
      obtain ⟨d', e1, e2⟩ := Option.map_eq_some_iff.mp e
      cases e2
      obtain ⟨v, ev, rv⟩ := rs.get e1
      refine ⟨v, ?_, rv⟩
      rw [List.getElem?_append_left (by rw [List.length_map, ← rs.length]; exact hn), List.getElem?_map, ev]
      rfl
    · rw [List.getElem?_append_right (by simpa using hn), List.getElem?_replicate] at e
      split at e <;> cases e
  cases rb with
  | bad => exact w2.bad.elim
  | ok fl h1 =>
    refine ⟨ρ, _, h, hr, er, wd_sure eb fun ρ1 H1 s1 r1 => ?_⟩
    cases fl with
    | rt d => exact fun v rv => fin_val hr s1 r1 rv w2
    | nx e1 => exact fun σ' _ => fin_val (d := .non) (v := .non) hr s1 r1 rfl w2
    | bk e1 => exact w2.bad.elim
    | ct e1 => exact w2.bad.elim
end Ev

set_option Elab.async false
set_option linter.all false
set_option maxRecDepth 100000
set_option maxHeartbeats 4000000
namespace Ev
open PySem PySem.Spec PyProof.Rows L2

def isSet : Expr → Bool
  | .Set .. => true
  | _ => false
def isSlice : Expr → Bool
  | .Slice .. => true
  | _ => false
def isCall : Expr → Bool
  | .Call .. => true
  | _ => false
def isComp : Expr → Bool
  | .ListComp .. => true
  | .SetComp .. => true
  | .DictComp .. => true
  | _ => false
def isName : Expr → Bool
  | .Name .. => true
  | _ => false
def isTupE : Expr → Bool
  | .Tuple .. => true
  | _ => false
def isLstE : Expr → Bool
  | .List .. => true
  | _ => false
section
variable {X : Cx} {cf : CF} {a b : Expr} {ia ib : E} {pos p p2 : Pos}
/-- isinstance(x, T), T a built-in type -/
theorem ev_isi {n : String} {tn : Str} (ha : PEv X cf a ia) (hg : Gl X "isinstance") (hm : X.mg "isinstance" = none) (gn : Gl X tn) (mn : X.mg tn = none) (hv : bootBuiltins tn = some (.type n)) (hn : tn ≠ "__name__") (hd : (tn == ("__debug__" : Str)) = false) (hs : isStar a = false) :
    PEv X cf (.Call (.Name "isinstance" p) [a, .Name tn p2] [] pos) (.bi (.isi n) (.cons ia .nil)) := by
  refine PE.of (pe_callB call_isi hg hm (show bootBuiltins "isinstance" = some (.builtin "isinstance") by decide +kernel) (pa_cons ha (pa_cons (pe_bltn (v := .ty n) gn mn hv rfl hn hd) pa_nil rfl) (star_cons hs)) (by decide) (by decide) (star_cons hs) rfl) fun σ H Q ⟨ρ, env, h, hr, er, w⟩ => ?_
  obtain ⟨d, hh, e, fin⟩ := w
  obtain ⟨xs, h1, e1, e2⟩ := R.bind_eq_ok e
  obtain ⟨x, h2, e3, e4⟩ := R.bind_eq_ok (show (evE cf ia env h).bind _ = _ from e1)
  injection (show R.ok [x] h2 = R.ok xs h1 from e4) with k1 k2
  subst k1 k2
  refine ⟨ρ, env, h, hr, er, wd_sure e3 fun ρ1 H1 s1 r1 v rv => ?_⟩
  have e5 : (match tyName h2 x with
    | some t => b01 (isiT t n) h2
    | none => .bad) = R.ok d hh := e2
  cases et : tyName h2 x with
  | none => rw [et] at e5; cases e5
  | some t =>
    rw [et] at e5
    simp only at e5
    cases ei : isiT t n with
    | none => rw [ei] at e5; cases e5
    | some k =>
      rw [ei] at e5
      cases (show R.ok (.bl k) h2 = R.ok d hh from e5)
      obtain ⟨q1, q2⟩ := ty_of r1 rv et
      exact ⟨v, .ty n, .type t, .type n, k, rfl, .ty n, q1, isi_kit X.K t n k q2 ei, fin ρ1 H1 s1 r1 _ rfl⟩
/-- one alone -/
theorem ev_bool1 {op : BoolOp} (ha : PEv X cf a ia) : PEv X cf (.BoolOp op [a] pos) ia := ⟨fun pins s σ H Q I q => ha.run pins s σ H Q I q⟩
theorem pt_of_pw {e : Expr} {t : TT} (h : PW X e t) : PT X e t := ⟨fun pins s σ H Q I q => h.run _ pins s σ H Q I q⟩
theorem behind_no {op : CmpOp} {b : Expr} (h : isSet b = false) : behindInMarks op b = false := by
  cases b <;> first | rfl | cases h
theorem plain_ix {b : Expr} (h : isSlice b = false) : PlainIx b := by
  cases b <;> first | (exact fun _ _ => rfl) | cases h
theorem aug_st {b : Expr} (h : isSlice b = false) : ∀ ov iv new, augStore b ov iv new = (do holding [new, ov, iv] (setItem ov iv new); release [new, ov, iv] []; pure .next) := by
  cases b <;> first | (exact fun _ _ _ => rfl) | cases h
theorem sub_asg {b : Expr} {env : Env} (h : isSlice b = false) : ∀ v, assign (.Subscript a b pos) env v = (do
      let ov ← holding [v] (eval a env)
      let iv ← holding [v, ov] (eval b env)
      standAt pos
      holding [v, ov, iv] (setItem ov iv v)
      release [v, ov, iv] []) := by
  cases b <;> first | (exact fun _ => rfl) | cases h
/-- where a method's object is not super() -/
theorem base_no {o : Expr} {m : Str} {env : Env} {wh : Sem Value} (h : isCall o = false) : attributeBase o m env wh = wh := by
  cases o <;> first | rfl | cases h
theorem folded_no {b : Expr} {env : Env} (h : isSet b = false) : ∀ x, foldedSetIterable b env x = pure x := by
  cases b <;> first | (exact fun _ => rfl) | cases h
end
/-! ### stores of several names -/
def swNames (sc : Scope) (ts : List Expr) : List Str :=
  ts.filterMap fun
    | .Name id pos => if sc.names.lookup id == some .local && pos.line == (ts.head?.map (·.pos.line)).getD 0 then some id else none
    | _ => none
def anyStar (vs : List Expr) : Bool := vs.any fun | .Starred .. => true | _ => false
/-- what swappedStores tells of a tuple's names and a tuple's items; none: not told -/
def swOf (sc : Scope) (ts vs : List Expr) : Option (Option (List Str)) :=
  if (!(ts.length == 2 || ts.length == 3) || vs.length != ts.length) = true then some none
  else if anyStar vs = true then some none
  else if ((swNames sc ts).length != ts.length || (swNames sc ts).eraseDups.length != (swNames sc ts).length) = true then some none
  else if vs.all (foldedForSure 8) = true then some none
  else if vs.all (constantsAlone 8) = true then none
  else some (some (swNames sc ts))
theorem swOf_ok {sc : Scope} {env : Env} {ts vs : List Expr} {k1 k2 : Nat} {p1 p2 : Pos} {r : Option (List Str)} (hs : env.scope = sc) (hk : sc.kind = .function) (h : swOf sc ts vs = some r) : swappedStores [.Tuple ts k1 p1] (.Tuple vs k2 p2) env = pure r := by
  have hb : env.blockKind = .function := by unfold Env.blockKind; rw [hs, hk]; rfl
  subst hs
  unfold swappedStores
  simp only [hb]
  change (if (!(ts.length == 2 || ts.length == 3) || vs.length != ts.length || false) = true then (pure none : Sem (Option (List Str)))
    else if anyStar vs = true then pure none
    else if ((swNames env.scope ts).length != ts.length || (swNames env.scope ts).eraseDups.length != (swNames env.scope ts).length) = true then pure none
    else if vs.all (foldedForSure 8) = true then pure none
    else if vs.all (constantsAlone 8) = true then _
    else pure (some (swNames env.scope ts))) = _
  rw [Bool.or_false]
  unfold swOf at h
  split at h <;> rename_i c1
  · cases h; rw [if_pos c1]
  rw [if_neg c1]
  split at h <;> rename_i c2
  · cases h; rw [if_pos c2]
  rw [if_neg c2]
  split at h <;> rename_i c3
  · cases h; rw [if_pos c3]
  rw [if_neg c3]
  split at h <;> rename_i c4
  · cases h; rw [if_pos c4]
  rw [if_neg c4]
  split at h <;> rename_i c5
  · cases h
  rw [if_neg c5]
  cases h
  rfl
theorem sw_other {tg e : Expr} {env : Env} (h : (isLstE tg || (isTupE tg && isTupE e)) = false) : swappedStores [tg] e env = pure none := by
  cases tg <;> first
    | (cases e <;> first | rfl | cases h)
    | rfl
    | cases h
theorem sws_other {tg e : Expr} {l : Nat} {env : Env} (h : isName tg = false) : swapsWithSole [tg] e l env = pure false := by
  cases tg <;> first | (cases e <;> rfl) | (exact absurd h (by simp [isName]))
theorem sw_noComp {tg e : Expr} {l : Nat} {env : Env} (h : isComp e = false) : swapsWith e (some tg) l env = pure false := by
  cases e <;> first | rfl | cases h
theorem sw_comp {elt : Expr} {gs : List Comprehension} {scope : Scope} {pos py : Pos} {y : Str} {l : Nat} {env : Env} {sc : Scope} (hs : env.scope = sc) (hk : sc.kind = .function) :
    swapsWith (.ListComp elt gs scope pos) (some (.Name y py)) l env = pure (sc.names.lookup y == some .local && py.line == pos.line && !(scope.names.any fun (n, k) => n == y && (k == .local || k == .cell))) := by
  have hb : env.blockKind = .function := by unfold Env.blockKind; rw [hs, hk]; rfl
  unfold swapsWith
  simp only [hb, show env.kindOf y = sc.names.lookup y by rw [← hs]; rfl]
  rfl
end Ev

set_option Elab.async false
set_option linter.all false
set_option maxRecDepth 100000
set_option maxHeartbeats 4000000
namespace Ev
open PySem PySem.Spec PyProof.Rows L2

/-! ### the translator -/
/-- what a global name is -/
inductive Gw where
  | fn (i : Nat) | cst (d : D)
structure Tx where
  N : List Str
  sc : Scope
  fl : Str → Bool
  gl : List (Str × Gw)
  kw : List ((Str × List Str) × List Nat)
/-- how a call by keywords alone binds -/
def KBk (K : PySem.W.Frag) (fd : FuncData) (ps ks : List Str) (pm : List Nat) : Prop := ∀ (s : Shared) (ws : List Value), K.In s.heap → ws.length = ks.length → BindsTo s fd ⟨[], ks.zip ws⟩ (ps.zip (pm.filterMap fun i => ws[i]?))
def slot (T : Tx) (x : Str) : Option Nat := (T.N.findIdx? fun y => decide (y = x)).bind fun i => if T.N[i]? = some x then some i else none
def visB (T : Tx) (x : Str) : Bool := decide (T.sc.names.lookup x = some .local) || decide (T.sc.names.lookup x = some .cell) || decide (T.sc.names.lookup x = some .free)
def locB (T : Tx) (x : Str) : Bool := decide (T.sc.names.lookup x = some .local) || (decide (T.sc.names.lookup x = some .cell) && T.fl x)
def glB (T : Tx) (x : Str) : Bool := decide (T.sc.names.lookup x = some .globalImplicit)
def okB (x : Str) : Bool := !(x == ("__debug__" : Str)) && !(x == ("__classdict__" : Str)) && !decide (x = ("__name__" : Str))
def opOf : Operator → Option Op
  | .Add => some .add | .Sub => some .sub | .Mult => some .mul | .FloorDiv => some .fdiv | .Mod => some .mod | .Pow => some .pow | _ => none
def cmOf : CmpOp → Option Cm
  | .Eq => some .eq | .NotEq => some .ne | .Lt => some .lt | .LtE => some .le | .Gt => some .gt | .GtE => some .ge | .Is => some .is | .IsNot => some .isn | .In => some .inn | .NotIn => some .nin
def bltNames : List Str := (["len", "abs", "min", "max", "sum", "all", "any", "int", "list", "tuple"] : List Str) ++ (["divmod", "str", "range", "enumerate", "zip", "isinstance", "repr", "bool"] : List Str)
def biB : List (Str × Bi) := [("len", .len), ("abs", .abs), ("min", .min), ("max", .max), ("sum", .sum), ("all", .all), ("any", .any), ("divmod", .divmod)]
def biT : List (Str × Bi) := [("int", .int), ("list", .list), ("tuple", .tuple), ("str", .str)]
def tyT : List (Str × String) := [("int", "int"), ("bool", "bool"), ("str", "str"), ("tuple", "tuple"), ("list", "list")]
def ownOf (T : Tx) (scope : Scope) : List (Str × Nat) := scope.names.filterMap fun p => if p.2 == .local || p.2 == .cell then (slot T p.1).map fun i => (p.1, i) else none
def Tx.blk (T : Tx) (scope : Scope) : Tx := { T with sc := relS scope T.sc, fl := fun x => scope.names.lookup x == some .cell }
def noStar (es : List Expr) : Bool := es.all fun e => !isStar e

/-- what the context keeps -/
structure Good (Tb : Nat → Option Fd) (w k : Nat) (X : Cx) (T : Tx) : Prop where
  hN : X.N = T.N
  nd : X.N.Nodup
  sc : X.env.scope = T.sc
  calm : X.calm = true
  fl : X.fn = T.fl
  gd : X.A.guards = some []
  room : Room k X.A
  fns : ∀ x i, T.gl.lookup x = some (.fn i) → ∃ fA fdt ps fd, Tb i = some fd ∧ ps.length = fd.np ∧ FnG X.prog X.w X.K X.mg X.base k fA fdt ps (spF X.K (callF Tb w k i) fd.np) ∧ X.mg x = some (.ref fA) ∧ PySem.W.keepIn X.K (.ref fA) = true ∧ Binds X.K fdt ps [] ∧ ∀ ks pm, T.kw.lookup (x, ks) = some pm → KBk X.K fdt ps ks pm
  cst : ∀ x d, T.gl.lookup x = some (.cst d) → ∃ v u, X.mg x = some u ∧ RelV v u ∧ ∀ ρ H, Rep X.K ρ H d v
  blt : ∀ x ∈ bltNames, X.mg x = none

mutual
def trE : Nat → Tx → Expr → Option E
  | 0, _, _ => none
  | n + 1, T, .Name x _ => if okB x then (if visB T x then (slot T x).map .var else if glB T x then (match T.gl.lookup x with
      | some (.cst d) => some (.lit d)
      | _ => none) else none) else none
  | n + 1, T, .Constant (.int i) _ _ => some (.lit (.int i))
  | n + 1, T, .Constant (.bool b) _ _ => some (.lit (.bl b))
  | n + 1, T, .Constant (.str b) _ _ => some (.lit (.str b))
  | n + 1, T, .Constant .none _ _ => some (.lit .non)
  | n + 1, T, .BinOp a o b _ => match opOf o, trE n T a, trE n T b with
    | some o, some ia, some ib => some (.bin o ia ib)
    | _, _, _ => none
  | n + 1, T, .UnaryOp .USub a _ => (trE n T a).map .neg
  | n + 1, T, .UnaryOp .Not a _ => (trE n T a).map .not
  | n + 1, T, .BoolOp op vs _ => trB n T op vs
  | n + 1, T, .Compare a [o] [b] _ => match cmOf o, trE n T a, trE n T b with
    | some o, some ia, some ib => if isSet b then none else some (.cmp o ia ib)
    | _, _, _ => none
  | n + 1, T, .Compare a [o, o2] [b, c] _ => match cmOf o, cmOf o2, trE n T a, trE n T b, trE n T c with
    | some o, some o2, some ia, some ib, some ic => if isSet c then none else some (.cmp2 o o2 ia ib ic)
    | _, _, _, _, _ => none
  | n + 1, T, .IfExp c a b _ => match trE n T c, trE n T a, trE n T b with
    | some ic, some ia, some ib => some (.ife ic ia ib)
    | _, _, _ => none
  | n + 1, T, .Tuple es _ _ => (trEs n T es).map .tup
  | n + 1, T, .List es _ => (trEs n T es).map .lst
  | n + 1, T, .Subscript a (.Slice lo hi none _) _ => match trE n T a, trEo n T lo, trEo n T hi with
    | some ia, some il, some ih => some (.slc ia il ih)
    | _, _, _ => none
  | n + 1, T, .Subscript a (.Slice none none (some (.UnaryOp .USub (.Constant (.int 1) _ _) _)) _) _ => (trE n T a).map .rev
  | n + 1, T, .Subscript a b _ => if isSlice b then none else (match trE n T a, trE n T b with
    | some ia, some ib => some (.idx ia ib)
    | _, _ => none)
  | n + 1, T, .ListComp elt [⟨tg, iter, ifs, 0⟩] scope _ => (trC n T elt tg iter ifs scope).map .comp
  | n + 1, T, .Call (.Name x _) es [] _ => if okB x && glB T x then trCall n T x es else none
  | n + 1, T, .Call (.Name x _) [] kws _ => if okB x && glB T x then trCallK n T x kws else none
  | n + 1, T, _ => none
def trB : Nat → Tx → BoolOp → List Expr → Option E
  | 0, _, _, _ => none
  | n + 1, T, _, [a] => trE n T a
  | n + 1, T, .And, a :: b :: r => match trE n T a, trB n T .And (b :: r) with
    | some ia, some ib => some (.and ia ib)
    | _, _ => none
  | n + 1, T, .Or, a :: b :: r => match trE n T a, trB n T .Or (b :: r) with
    | some ia, some ib => some (.or ia ib)
    | _, _ => none
  | n + 1, T, _, _ => none
def trEs : Nat → Tx → List Expr → Option Es
  | 0, _, _ => none
  | n + 1, T, [] => some .nil
  | n + 1, T, e :: es => if isStar e then none else (match trE n T e, trEs n T es with
    | some i, some is => some (.cons i is)
    | _, _ => none)
def trEo : Nat → Tx → Option Expr → Option Eo
  | 0, _, _ => none
  | n + 1, T, none => some .no
  | n + 1, T, some e => (trE n T e).map .so
def trIfs : Nat → Tx → List Expr → Option Eo
  | 0, _, _ => none
  | n + 1, T, [] => some .no
  | n + 1, T, [e] => (trE n T e).map .so
  | n + 1, T, _ => none
def trT : Nat → Tx → Expr → Option T
  | 0, _, _ => none
  | n + 1, T, .Name x _ => if locB T x then (slot T x).map .nm else none
  | n + 1, T, .Tuple es _ _ => (trTs n T es).map .tp
  | n + 1, T, .Subscript a b _ => if isSlice b then none else (match trE n T a, trE n T b with
    | some ia, some ib => some (.sub ia ib)
    | _, _ => none)
  | n + 1, T, _ => none
def trTs : Nat → Tx → List Expr → Option Ts
  | 0, _, _ => none
  | n + 1, T, [] => some .nil
  | n + 1, T, e :: es => match trT n T e, trTs n T es with
    | some i, some is => some (.cons i is)
    | _, _ => none
def trI : Nat → Tx → Expr → Expr → Option It
  | 0, _, _, _ => none
  | n + 1, T, tg, .Call (.Name x p) es [] q => if glB T x && decide (x = ("range" : Str)) then (match es, trEs n T es with
      | [_], some is => some (.rng is)
      | [_, _], some is => some (.rng is)
      | [_, _, _], some is => some (.rng is)
      | _, _ => none)
    else if glB T x && isTupE tg && decide (x = ("enumerate" : Str)) then (match es with
      | [a] => if isStar a then none else (trE n T a).map .enm
      | _ => none)
    else if glB T x && isTupE tg && decide (x = ("zip" : Str)) then (match es with
      | [a, b] => if isStar a || isStar b then none else (match trE n T a, trE n T b with
        | some ia, some ib => some (.zip ia ib)
        | _, _ => none)
      | _ => none)
    else (trE n T (.Call (.Name x p) es [] q)).map .seq
  | n + 1, T, _, e => (trE n T e).map .seq
def trC : Nat → Tx → Expr → Expr → Expr → List Expr → Scope → Option Cp
  | 0, _, _, _, _, _, _ => none
  | n + 1, T, elt, tg, iter, ifs, scope => if blkC T.N T.sc scope (ownOf T scope) && !isSet iter then
      (match trE n (T.blk scope) elt, trT n (T.blk scope) tg, trI n T tg iter, trIfs n (T.blk scope) ifs with
      | some ie, some it, some ii, some iff => if ownT ((ownOf T scope).map (·.2)) it then some (.mk ie it ii iff ((ownOf T scope).map (·.2))) else none
      | _, _, _, _ => none) else none
def trKws : Nat → Tx → List Keyword → Option (List Str × Es)
  | 0, _, _ => none
  | n + 1, T, [] => some ([], .nil)
  | n + 1, T, ⟨some z, e, _⟩ :: r => match trE n T e, trKws n T r with
    | some i, some (zs, is) => some (z :: zs, .cons i is)
    | _, _ => none
  | n + 1, T, _ => none
def trCallK : Nat → Tx → Str → List Keyword → Option E
  | 0, _, _, _ => none
  | n + 1, T, x, kws => match T.gl.lookup x, trKws n T kws with
    | some (.fn i), some (zs, is) => (match T.kw.lookup (x, zs) with
      | some pm => some (.callk i pm is)
      | none => none)
    | _, _ => none
def trCall : Nat → Tx → Str → List Expr → Option E
  | 0, _, _, _ => none
  | n + 1, T, x, es => match T.gl.lookup x with
    | some (.fn i) => (match es with
      | [] => none
      | e :: r => (trEs n T (e :: r)).map (.call i))
    | some _ => none
    | none => if x = ("isinstance" : Str) then (match es with
        | [a, .Name tn _] => if okB tn && glB T tn && !isStar a then (match tyT.lookup tn, trE n T a with
            | some t, some ia => some (.bi (.isi t) (.cons ia .nil))
            | _, _ => none) else none
        | _ => none)
      else if x = ("repr" : Str) then (match es with
        | [a] => if isStar a then none else (trE n T a).map fun ia => .bi .repr (.cons ia .nil)
        | _ => none)
      else (match (if decide (x = ("list" : Str)) then (match es with
          | [.Call (.Name z _) [a, b] [] _] => if glB T z && decide (z = ("zip" : Str)) && !isStar a && !isStar b then (match trE n T a, trE n T b with
            | some ia, some ib => some (.bi .lzip (.cons ia (.cons ib .nil)))
            | _, _ => none) else none
          | _ => none) else none) with
        | some r => some r
        | none => (match biB.lookup x, biT.lookup x, es with
          | some b, _, [.ListComp elt [⟨tg, iter, ifs, 0⟩] scope _] => (trC n T elt tg iter ifs scope).map (.bq b)
          | none, some b, [.ListComp elt [⟨tg, iter, ifs, 0⟩] scope _] => (trC n T elt tg iter ifs scope).map (.bq b)
          | some b, _, e :: r => (trEs n T (e :: r)).map (.bi b)
          | none, some b, e :: r => (trEs n T (e :: r)).map (.bi b)
          | _, _, _ => none))
end
end Ev

set_option Elab.async false
set_option linter.all false
set_option maxRecDepth 100000
set_option maxHeartbeats 4000000
namespace Ev
open PySem PySem.Spec PyProof.Rows L2

/-! ### list(zip(a, b)): the pairs that zip hands out are kept, so it makes each anew -/
section
variable {M : Model} {prog : Program} {w : World} {A : Around} {E : Value → Shared → Prop} {s : Shared}
theorem any_loadIfAlive {a : Addr} {Q : Option Obj → Shared → Prop} (h : Q (s.heap.get? a) s) : wpAny M A (loadIfAlive a) Q E s := fun _ _ _ => h
abbrev IsZipB (h : Heap) (z TI TO : Addr) (f0 : Value) (b : Bool) : Prop :=
  h.get? z = some { cls := .type "zip", dict := none, data := .fields #[f0, .bool b, .bool false, .ref TI, .ref TO], slots := #[] }
theorem zip_held {z TI TO T : Addr} {b : Bool} {Q : Bool → Shared → Prop} (hz : IsZipB s.heap z TI TO (rawInt T) b) (hT : ∃ o, s.heap.get? T = some o)
    (h : ∀ h', IsZipB h' z TI TO (rawInt T) true → Heap.SameBut z s.heap h' → Q false { s with heap := h' }) : wpAny (model prog w) A (Builtin.SmallTypes.ownedTupleIsFree (.ref z)) Q E s := by
  obtain ⟨o, ho⟩ := hT
  unfold Builtin.SmallTypes.ownedTupleIsFree
  refine wpAny_bind (wpAny_field hz rfl (x := rawInt T) rfl ?_)
  show wpAny _ _ (loadIfAlive ((T : Int).toNat) >>= _) _ _ _
  rw [Int.toNat_natCast]
  refine wpAny_bind (any_loadIfAlive ?_)
  rw [ho]
  show wpAny _ _ (field (.ref z) 1 >>= _) _ _ _
  refine wpAny_bind (wpAny_field hz rfl (x := .bool b) rfl ?_)
  cases b with
  | true =>
    refine wpAny_pure ?_
    exact h s.heap hz ⟨rfl, fun _ _ => rfl⟩
  | false =>
    show wpAny _ _ (setField (.ref z) 1 (.bool true) >>= fun _ => pure false) _ _ _
    refine wpAny_bind (wpAny_setField_rec hz (by simp) fun h₁ hz₁ hs₁ => wpAny_pure ?_)
    exact h h₁ hz₁ hs₁
theorem zipB_next_item {z TI TO i1 i2 l1 l2 T : Addr} {b : Bool} {k1 k2 : Nat} {xs ys : Array Value} {x y : Value} {Q : Value → Shared → Prop} (D : ZipApart z TI TO i1 i2 l1 l2)
    (hz : IsZipB s.heap z TI TO (rawInt T) b) (hT : ∃ o, s.heap.get? T = some o) (hTI : IsPair s.heap TI (.ref i1) (.ref i2))
    (h1 : s.heap.IsListIter i1 l1 k1) (h2 : s.heap.IsListIter i2 l2 k2) (hl1 : s.heap.IsList l1 xs) (hl2 : s.heap.IsList l2 ys) (hx : xs[k1]? = some x) (hy : ys[k2]? = some y)
    (hQ : ∀ h', IsZipB h' z TI TO (rawInt T) true → h'.IsListIter i1 l1 (k1 + 1) → h'.IsListIter i2 l2 (k2 + 1) → IsPair h' s.heap.objs.size x y → h'.objs.size = s.heap.objs.size + 1 →
      (∀ c o, c ≠ z → c ≠ i1 → c ≠ i2 → s.heap.get? c = some o → h'.get? c = some o) → Q (.ref s.heap.objs.size) { s with heap := h' }) :
    wpAny (model prog w) A (Builtin.«zip.__next__» ⟨[.ref z], []⟩) (fun fin s' => ∃ v, fin = .done (.ret v) ∧ Q v s') E s := by
  show wpAny _ _ (field (.ref z) 2 >>= _) _ _ _
  refine wpAny_bind (wpAny_field hz rfl (x := .bool false) rfl ?_)
  show wpAny _ _ (field (.ref z) 3 >>= _) _ _ _
  refine wpAny_bind (wpAny_field hz rfl (x := .ref TI) rfl ?_)
  refine wpAny_bind (wpAny_seqItems hTI rfl ?_)
  show wpAny _ _ (Builtin.SmallTypes.ownedTupleIsFree (.ref z) >>= _) _ _ _
  refine wpAny_bind (zip_held hz hT fun h₁ hz₁ hs₁ => ?_)
  simp only [Bool.false_eq_true, if_false]
  try dsimp only
  refine wpAny_bind ?_
  first
  | rw [List.forIn_toArray]
  | (rw [← Array.forIn_toList]; simp only [List.toList_toArray])
  | rw [← Array.forIn_toList]
  simp only [List.forIn_cons, List.forIn_nil]
  refine wpAny_bind (wpAny_bind (wpAny_holding ?_))
  show wpAny _ _ (Builtin.SmallTypes.nextOf (.ref i1) >>= _) _ _ _
  refine wpAny_bind (wpAny_nextOf_list_item (h1.extBut hs₁.extBut D.i1z) (hl1.extBut hs₁.extBut D.l1z) hx fun h₂ h1₂ hs₂ => wpAny_pure ?_)
  refine wpAny_pure ?_
  refine wpAny_bind (wpAny_bind (wpAny_holding ?_))
  show wpAny _ _ (Builtin.SmallTypes.nextOf (.ref i2) >>= _) _ _ _
  refine wpAny_bind (wpAny_nextOf_list_item ((h2.extBut hs₁.extBut D.i2z).extBut hs₂.extBut D.i12.symm)
    ((hl2.extBut hs₁.extBut D.l2z).extBut hs₂.extBut D.l2i1) hy fun h₄ h2₄ hs₄ => wpAny_pure ?_)
  refine wpAny_pure (wpAny_pure ?_)
  refine wpAny_bind (wpAny_newTuple ?_ (show 2 ≤ sizeLine by decide))
  have hsz : h₄.objs.size = s.heap.objs.size := by rw [hs₄.1, hs₂.1, hs₁.1]
  refine wpAny_pure ⟨_, rfl, ?_⟩
  show Q (.ref h₄.objs.size) _
  rw [hsz]
  have up : ∀ c o, h₄.get? c = some o → (h₄.push { cls := .type "tuple", data := .seq #[x, y] }).get? c = some o := fun c o e => Heap.get?_push_of_some _ e
  refine hQ _ (up _ _ (hs₄.extBut _ _ D.i2z.symm (hs₂.extBut _ _ D.i1z.symm hz₁))) ((h1₂.extBut hs₄.extBut D.i12).at fun o e => up _ o e) (h2₄.at fun o e => up _ o e) ?_ ?_ fun c o c1 c2 c3 e => up c o (hs₄.extBut _ _ c3 (hs₂.extBut _ _ c2 (hs₁.extBut _ _ c1 e)))
  · rw [← hsz]; exact Heap.get?_push_size _ rfl
  · rw [Heap.size_push, hsz]
theorem zipB_next_end {z TI TO i1 i2 l1 l2 T : Addr} {b : Bool} {k1 k2 : Nat} {xs ys : Array Value} {Q : Fin → Shared → Prop} (hh : A.handled = none) (D : ZipApart z TI TO i1 i2 l1 l2)
    (hz : IsZipB s.heap z TI TO (rawInt T) b) (hT : ∃ o, s.heap.get? T = some o) (hTI : IsPair s.heap TI (.ref i1) (.ref i2))
    (h1 : s.heap.IsListIter i1 l1 k1) (h2 : s.heap.IsListIter i2 l2 k2) (hl1 : s.heap.IsList l1 xs) (hl2 : s.heap.IsList l2 ys) (hend : xs[k1]? = none ∨ ys[k2]? = none)
    (hE : ∀ h' e, (∀ c o, c ≠ z → c ≠ i1 → c ≠ i2 → s.heap.get? c = some o → h'.get? c = some o) → (∃ o, h'.get? e = some o ∧ o.cls = .type "StopIteration") → E (.ref e) { s with heap := h' }) :
    wpAny (model prog w) A (Builtin.«zip.__next__» ⟨[.ref z], []⟩) Q E s := by
  show wpAny _ _ (field (.ref z) 2 >>= _) _ _ _
  refine wpAny_bind (wpAny_field hz rfl (x := .bool false) rfl ?_)
  show wpAny _ _ (field (.ref z) 3 >>= _) _ _ _
  refine wpAny_bind (wpAny_field hz rfl (x := .ref TI) rfl ?_)
  refine wpAny_bind (wpAny_seqItems hTI rfl ?_)
  show wpAny _ _ (Builtin.SmallTypes.ownedTupleIsFree (.ref z) >>= _) _ _ _
  refine wpAny_bind (zip_held hz hT fun h₁ hz₁ hs₁ => ?_)
  simp only [Bool.false_eq_true, if_false]
  try dsimp only
  refine wpAny_bind ?_
  first
  | rw [List.forIn_toArray]
  | (rw [← Array.forIn_toList]; simp only [List.toList_toArray])
  | rw [← Array.forIn_toList]
  simp only [List.forIn_cons, List.forIn_nil]
  refine wpAny_bind (wpAny_bind (wpAny_holding ?_))
  show wpAny _ _ (Builtin.SmallTypes.nextOf (.ref i1) >>= _) _ _ _
  cases hx : xs[k1]? with
  | none =>
    refine wpAny_bind (wpAny_nextOf_list_end hh (h1.extBut hs₁.extBut D.i1z) (hl1.extBut hs₁.extBut D.l1z) hx fun h₂ e hs₂ he => ?_)
    exact hE h₂ e (fun c o c1 c3 _ x => hs₂ _ _ c3 (hs₁.extBut _ _ c1 x)) he
  | some x =>
    have hy : ys[k2]? = none := by rcases hend with h | h; rw [hx] at h; cases h; exact h
    refine wpAny_bind (wpAny_nextOf_list_item (h1.extBut hs₁.extBut D.i1z) (hl1.extBut hs₁.extBut D.l1z) hx fun h₂ h1₂ hs₂ => wpAny_pure ?_)
    refine wpAny_pure ?_
    refine wpAny_bind (wpAny_bind (wpAny_holding ?_))
    show wpAny _ _ (Builtin.SmallTypes.nextOf (.ref i2) >>= _) _ _ _
    refine wpAny_bind (wpAny_nextOf_list_end hh ((h2.extBut hs₁.extBut D.i2z).extBut hs₂.extBut D.i12.symm)
      ((hl2.extBut hs₁.extBut D.l2z).extBut hs₂.extBut D.l2i1) hy fun h₄ e hs₄ he => ?_)
    exact hE h₄ e (fun c o c1 c3 c4 x => hs₄ _ _ c4 (hs₂.extBut _ _ c3 (hs₁.extBut _ _ c1 x))) he
/-- the zip after i items: none was handed out, or one that is held -/
structure ZAt (z TI TO i1 i2 l1 l2 : Addr) (xs ys : Array Value) (i : Nat) (h : Heap) : Prop where
  zip : IsZip h z TI TO .none ∨ ∃ (T : Addr) (b : Bool), IsZipB h z TI TO (rawInt T) b ∧ ∃ o, h.get? T = some o
  TI : IsPair h TI (.ref i1) (.ref i2)
  TO : ∃ a b, IsPair h TO a b
  it1 : h.IsListIter i1 l1 i
  it2 : h.IsListIter i2 l2 i
  l1 : h.IsList l1 xs
  l2 : h.IsList l2 ys
theorem zipZ_next_item {z TI TO i1 i2 l1 l2 : Addr} {i : Nat} {xs ys : Array Value} {x y : Value} {Q : Option Value → Shared → Prop} (D : ZipApart z TI TO i1 i2 l1 l2)
    (Z : ZAt z TI TO i1 i2 l1 l2 xs ys i s.heap) (hx : xs[i]? = some x) (hy : ys[i]? = some y)
    (hQ : ∀ h', ZAt z TI TO i1 i2 l1 l2 xs ys (i + 1) h' → IsPair h' s.heap.objs.size x y → h'.objs.size = s.heap.objs.size + 1 →
      (∀ c o, c ≠ z → c ≠ TO → c ≠ i1 → c ≠ i2 → s.heap.get? c = some o → h'.get? c = some o) → Q (some (.ref s.heap.objs.size)) { s with heap := h' }) :
    wpAny (model prog w) A (pyNext (.ref z)) Q E s := by
  obtain ⟨zz, hTI, ⟨a, b, hTO⟩, h1, h2, hl1, hl2⟩ := Z
  rcases zz with hz | ⟨T, bb, hz, hT⟩
  · refine wpAny_pyNext_zip_item D hz hTI hTO h1 h2 hl1 hl2 hx hy fun h' a1 a2 a3 a4 a5 a6 hk => ?_
    exact hQ h' ⟨.inr ⟨_, false, a1, _, a5⟩, hk _ _ D.TIz D.TITO D.TIi1 D.TIi2 hTI, ⟨_, _, a2⟩, a3, a4, hl1.at fun o e => hk _ o D.l1z D.l1TO D.l1i1 D.l1i2 e, hl2.at fun o e => hk _ o D.l2z D.l2TO D.l2i1 D.l2i2 e⟩ a5 a6 hk
  · have hTy : s.TypeIs (.ref z) "zip" := ⟨_, hz, rfl⟩
    unfold pyNext
    refine wpAny_bind (wpAny_attempt (wpAny_callSpecial?_slot (name := Str.ofString "__next__") hTy F.slot_zip_next
      (wpAny_call_entry F.slot_zip_next hTy F.entry_zip_next
        (zipB_next_item D hz hT hTI h1 h2 hl1 hl2 hx hy fun h' a1 a3 a4 a5 a6 hk => wpAny_pure ?_) (F.args_zip_next_1 _))))
    obtain ⟨o, ho⟩ := hT
    have alive : ∃ o, h'.get? T = some o := by
      by_cases c1 : T = z
      · subst c1; exact ⟨_, a1⟩
      · by_cases c2 : T = i1
        · subst c2; obtain ⟨_, e, _⟩ := a3; exact ⟨_, e⟩
        · by_cases c3 : T = i2
          · subst c3; obtain ⟨_, e, _⟩ := a4; exact ⟨_, e⟩
          · exact ⟨o, hk _ _ c1 c2 c3 ho⟩
    exact hQ h' ⟨.inr ⟨_, true, a1, alive⟩, hk _ _ D.TIz D.TIi1 D.TIi2 hTI, ⟨_, _, hk _ _ D.TOz D.TOi1 D.TOi2 hTO⟩, a3, a4, hl1.at fun o e => hk _ o D.l1z D.l1i1 D.l1i2 e, hl2.at fun o e => hk _ o D.l2z D.l2i1 D.l2i2 e⟩ a5 a6
      fun c o c1 _ c3 c4 e => hk c o c1 c3 c4 e
theorem zipZ_next_end {z TI TO i1 i2 l1 l2 : Addr} {i : Nat} {xs ys : Array Value} {Q : Option Value → Shared → Prop} (hh : A.handled = none) (D : ZipApart z TI TO i1 i2 l1 l2)
    (Z : ZAt z TI TO i1 i2 l1 l2 xs ys i s.heap) (hend : xs[i]? = none ∨ ys[i]? = none)
    (hQ : ∀ h', (∀ c o, c ≠ z → c ≠ TO → c ≠ i1 → c ≠ i2 → s.heap.get? c = some o → h'.get? c = some o) → Q none { s with heap := h' }) :
    wpAny (model prog w) A (pyNext (.ref z)) Q E s := by
  obtain ⟨zz, hTI, ⟨a, b, hTO⟩, h1, h2, hl1, hl2⟩ := Z
  rcases zz with hz | ⟨T, bb, hz, hT⟩
  · exact wpAny_pyNext_zip_end hh D hz hTI hTO h1 h2 hl1 hl2 hend hQ
  · have hTy : s.TypeIs (.ref z) "zip" := ⟨_, hz, rfl⟩
    unfold pyNext
    refine wpAny_bind (wpAny_attempt (wpAny_callSpecial?_slot (name := Str.ofString "__next__") hTy F.slot_zip_next
      (wpAny_call_entry F.slot_zip_next hTy F.entry_zip_next (zipB_next_end hh D hz hT hTI h1 h2 hl1 hl2 hend fun h' e hk he => ?_) (F.args_zip_next_1 _))))
    obtain ⟨o, ho, hc⟩ := he
    refine wpAny_bind (wpAny_isInstance (T := "StopIteration") (b := true) ⟨o, ho, hc⟩ isSubtype_stop ?_)
    exact wpAny_pure (hQ _ fun c o c1 _ c3 c4 e => hk c o c1 c3 c4 e)
theorem ZAt.frame {z TI TO i1 i2 l1 l2 : Addr} {i : Nat} {xs ys : Array Value} {h h' : Heap} {S : Addr} (Z : ZAt z TI TO i1 i2 l1 l2 xs ys i h) (hS : S ∉ [z, TI, TO, i1, i2, l1, l2]) (hk : ∀ c o, c ≠ S → h.get? c = some o → h'.get? c = some o) (hSn : ∃ o, h'.get? S = some o) : ZAt z TI TO i1 i2 l1 l2 xs ys i h' := by
  obtain ⟨zz, hTI, ⟨a, b, hTO⟩, h1, h2, hl1, hl2⟩ := Z
  simp only [List.mem_cons, List.not_mem_nil, or_false, not_or] at hS
  obtain ⟨n1, n2, n3, n4, n5, n6, n7⟩ := hS
  refine ⟨?_, hk _ _ (Ne.symm n2) hTI, ⟨a, b, hk _ _ (Ne.symm n3) hTO⟩, h1.at fun o e => hk _ o (Ne.symm n4) e, h2.at fun o e => hk _ o (Ne.symm n5) e, hl1.at fun o e => hk _ o (Ne.symm n6) e, hl2.at fun o e => hk _ o (Ne.symm n7) e⟩
  rcases zz with hz | ⟨T, bb, hz, o, hT⟩
  · exact .inl (hk _ _ (Ne.symm n1) hz)
  · refine .inr ⟨T, bb, hk _ _ (Ne.symm n1) hz, ?_⟩
    by_cases c : T = S
    · subst c; exact hSn
    · exact ⟨o, hk _ _ c hT⟩
/-- the pairs that were kept -/
def PairsAt (h : Heap) (N : Addr) (xs ys acc : Array Value) (i : Nat) : Prop := acc.size = i ∧ ∀ j, j < i → ∃ (T : Addr) (x y : Value), acc[j]? = some (.ref T) ∧ N ≤ T ∧ T < h.objs.size ∧ xs[j]? = some x ∧ ys[j]? = some y ∧ IsPair h T x y ∧ ∀ j', j' < j → acc[j']? ≠ some (.ref T)
theorem zip_extend_loop {R : Result → Shared → Prop} {z TI TO i1 i2 l1 l2 N : Addr} {xs ys : Array Value} (hh : A.handled = none) (D : ZipApart z TI TO i1 i2 l1 l2) (S : Addr) (hS : S ∉ [z, TI, TO, i1, i2, l1, l2]) (res : Value)
    (hN : ∀ c ∈ [z, TI, TO, i1, i2, S], c < N) (hn : min xs.size ys.size ≤ sizeLine) :
    ∀ (k i : Nat) (s : Shared) (acc : Array Value) (c : Nat), min xs.size ys.size - i = k → i ≤ min xs.size ys.size → ZAt z TI TO i1 i2 l1 l2 xs ys i s.heap → N ≤ s.heap.objs.size → s.heap.get? S = some { cls := .type "list", dict := none, data := .seq acc c, slots := #[] } → PairsAt s.heap N xs ys acc i →
    (∀ h' acc' c', (∀ c o, c < N → c ≠ z → c ≠ TO → c ≠ i1 → c ≠ i2 → c ≠ S → s.heap.get? c = some o → h'.get? c = some o) → h'.get? S = some { cls := .type "list", dict := none, data := .seq acc' c', slots := #[] } → PairsAt h' N xs ys acc' (min xs.size ys.size) → R (.ok (.ret res)) { s with heap := h' }) →
    codeAny (model prog w) A (.builtin "list.extend.loop" ⟨[.ref S, .ref z, res], []⟩) R s := by
  have hSz : S ≠ z ∧ S ≠ TO ∧ S ≠ i1 ∧ S ≠ i2 := by
    simp only [List.mem_cons, List.not_mem_nil, or_false, not_or] at hS
    exact ⟨hS.1, hS.2.2.1, hS.2.2.2.1, hS.2.2.2.2.1⟩
  have ltN : ∀ {T}, N ≤ T → T ≠ z ∧ T ≠ TO ∧ T ≠ i1 ∧ T ≠ i2 ∧ T ≠ S := fun {T} h => by
    have a := hN z (by simp)
    have b := hN TO (by simp)
    have c := hN i1 (by simp)
    have d := hN i2 (by simp)
    have e := hN S (by simp)
    refine ⟨?_, ?_, ?_, ?_, ?_⟩ <;> (intro x; subst x; exact absurd ‹T < N› (Nat.not_lt.mpr h))
  intro k
  induction k with
  | zero =>
    intro i s acc c hk hi Z hsz hSl P hR
    have hin : i = min xs.size ys.size := by omega
    subst hin
    refine codeAny_builtin F.entry_extend_loop ?_
    rw [Around.under_plainId F.plain_extend_loop _]
    show wpAny _ A.in1 (pyNext (.ref z) >>= _) _ _ s
    have hend : xs[min xs.size ys.size]? = none ∨ ys[min xs.size ys.size]? = none := by
      by_cases h : xs.size ≤ ys.size
      · left; rw [Array.getElem?_eq_none_iff]; omega
      · right; rw [Array.getElem?_eq_none_iff]; omega
    refine wpAny_bind (zipZ_next_end (A := A.in1) hh D Z hend fun h' hk => ?_)
    refine wpAny_pure (hR h' acc c (fun b o b1 b2 b3 b4 b5 _ e => hk b o b2 b3 b4 b5 e) (hk S _ hSz.1 hSz.2.1 hSz.2.2.1 hSz.2.2.2 hSl) ⟨P.1, fun j hj => ?_⟩)
    obtain ⟨T, x, y, p1, p2, p3, p4, p5, p6, p7⟩ := P.2 j hj
    obtain ⟨t1, t2, t3, t4, _⟩ := ltN p2
    have p6' := hk T _ t1 t2 t3 t4 p6
    exact ⟨T, x, y, p1, p2, Heap.lt_size p6', p4, p5, p6', p7⟩
  | succ k ih =>
    intro i s acc c hk hi Z hsz hSl P hR
    have hlt : i < min xs.size ys.size := by omega
    have hix : i < xs.size := by omega
    have hiy : i < ys.size := by omega
    refine codeAny_builtin F.entry_extend_loop ?_
    rw [Around.under_plainId F.plain_extend_loop _]
    show wpAny _ A.in1 (pyNext (.ref z) >>= _) _ _ s
    refine wpAny_bind (zipZ_next_item (A := A.in1) D Z (Array.getElem?_eq_getElem hix) (Array.getElem?_eq_getElem hiy) fun h' Z' hp hsz' hk' => ?_)
    have hS' := hk' S _ hSz.1 hSz.2.1 hSz.2.2.1 hSz.2.2.2 hSl
    show wpAny _ A.in1 (updateSeq S (·.push (.ref s.heap.objs.size)) >>= _) _ _ _
    refine wpAny_bind ?_
    have nS : s.heap.objs.size ≠ S := Nat.ne_of_gt (Heap.lt_size hSl)
    have kS : ∀ b o, b ≠ S → h'.get? b = some o → (h'.update S (Obj.mapSeq (·.push (.ref s.heap.objs.size)))).get? b = some o := fun b o hb e => (Heap.get?_update_other _ _ (Ne.symm hb)).trans e
    have selfS := Heap.get?_update_self (Obj.mapSeq (·.push (Value.ref s.heap.objs.size))) hS' rfl
    have usz : (h'.update S (Obj.mapSeq (·.push (Value.ref s.heap.objs.size)))).objs.size = h'.objs.size := (Heap.SameBut.update ..).1
    refine wpAny_updateSeq hS' rfl (wpAny_pure ⟨plainId_quiet F.plain_extend_loop _, ih (i + 1) { s with heap := h'.update S (Obj.mapSeq (·.push (.ref s.heap.objs.size))) } (acc.push (.ref s.heap.objs.size)) _ (by omega) hlt (Z'.frame hS kS ⟨_, selfS⟩) (by show N ≤ (h'.update S _).objs.size; rw [usz, hsz']; exact Nat.le_succ_of_le hsz) selfS ⟨by rw [Array.size_push, P.1], fun j hj => ?_⟩ fun h2 acc' c' hk2 hS2 P2 => ?_⟩)
      (by rw [P.1]; omega) (by show (acc.push (Value.ref s.heap.objs.size)).size ≤ sizeLine + 1; rw [Array.size_push, P.1]; omega)
    · by_cases hj' : j < i
      · obtain ⟨T, x, y, p1, p2, p3, p4, p5, p6, p7⟩ := P.2 j hj'
        obtain ⟨t1, t2, t3, t4, t5⟩ := ltN p2
        have p6' := kS T _ t5 (hk' T _ t1 t2 t3 t4 p6)
        have hja : j < acc.size := by rw [P.1]; exact hj'
        refine ⟨T, x, y, ?_, p2, Heap.lt_size p6', p4, p5, p6', fun j2 hj2 => ?_⟩
        · rw [Array.getElem?_push, if_neg (by omega)]; exact p1
        · rw [Array.getElem?_push, if_neg (by omega)]; exact p7 j2 hj2
      · have ej : j = i := by omega
        subst ej
        refine ⟨s.heap.objs.size, xs[j], ys[j], ?_, hsz, ?_, Array.getElem?_eq_getElem hix, Array.getElem?_eq_getElem hiy, kS _ _ nS hp, fun j2 hj2 e => ?_⟩
        · rw [Array.getElem?_push, if_pos P.1.symm]
        · show s.heap.objs.size < (h'.update S _).objs.size
          rw [usz, hsz']; exact Nat.lt_succ_self _
        · rw [Array.getElem?_push, if_neg (by rw [P.1]; omega)] at e
          obtain ⟨T, x, y, p1, p2, p3, _⟩ := P.2 j2 hj2
          rw [p1] at e
          cases e
          exact absurd p3 (Nat.lt_irrefl _)
    · refine hR h2 acc' c' (fun b o b1 b2 b3 b4 b5 b6 e => hk2 b o b1 b2 b3 b4 b5 b6 (kS b o b6 (hk' b o b2 b3 b4 b5 e))) hS2 P2
theorem nolen_zip : typeLookup (.type "zip") "__len__" = pure none := by rw [typeLookup_type, builtinLookup_eq_fast]; kernel_rfl
theorem nohint_zip : typeLookup (.type "zip") "__length_hint__" = pure none := by rw [typeLookup_type, builtinLookup_eq_fast]; kernel_rfl
theorem zip_extend {R : Result → Shared → Prop} {z TI TO i1 i2 l1 l2 N : Addr} {xs ys : Array Value} (hh : A.handled = none) (D : ZipApart z TI TO i1 i2 l1 l2) (S : Addr) (hS : S ∉ [z, TI, TO, i1, i2, l1, l2]) (res : Value) (c₀ : Nat)
    (hN : ∀ c ∈ [z, TI, TO, i1, i2, S], c < N) (hn : min xs.size ys.size ≤ sizeLine) (hz : IsZip s.heap z TI TO .none) (Z : ZAt z TI TO i1 i2 l1 l2 xs ys 0 s.heap) (hsz : N ≤ s.heap.objs.size) (hSl : s.heap.get? S = some { cls := .type "list", data := .seq #[] c₀ })
    (hR : ∀ h' acc' c', (∀ c o, c < N → c ≠ z → c ≠ TO → c ≠ i1 → c ≠ i2 → c ≠ S → s.heap.get? c = some o → h'.get? c = some o) → h'.get? S = some { cls := .type "list", dict := none, data := .seq acc' c', slots := #[] } → PairsAt h' N xs ys acc' (min xs.size ys.size) → R (.ok (.ret res)) { s with heap := h' }) :
    wpAny (model prog w) A.in1 (Builtin.List.listExtendWith (.ref S) (.ref z) res)
      (fun fin s' => match fin with | .done f => R (.ok f) s' | .again c' => c'.quiet = true ∧ codeAny (model prog w) A c' R s') (fun e s' => R (.error e) s') s := by
  have hSz : S ≠ z := fun e => hS (by rw [e]; simp)
  have hT : s.TypeIs (.ref z) "zip" := ⟨_, hz, rfl⟩
  have g1 : Builtin.List.listSameRef (.ref S) (.ref z) = false := by simp [Builtin.List.listSameRef, hSz]
  have g2 : (Value.type "zip" == Value.type "list") = false := by decide
  have g3 : (Value.type "zip" == Value.type "tuple") = false := by decide
  unfold Builtin.List.listExtendWith
  refine wpAny_bind (wpAny_typeOf hT ?_)
  simp only [g1, g2, g3, Bool.or_false, Bool.false_eq_true, if_false]
  refine wpAny_bind (wpAny_pyIter_zip hz ?_)
  refine wpAny_bind (wpAny_holding ?_)
  unfold Builtin.List.listLengthHint
  refine wpAny_bind (wpAny_specialOf hT nolen_zip ?_)
  show wpAny _ A.in1 (specialOf (Value.ref z) (Str.ofString "__length_hint__") >>= _) _ _ _
  refine wpAny_bind (wpAny_specialOf hT nohint_zip ?_)
  refine wpAny_pure ?_
  show wpAny _ A.in1 (rule "list.extend.makes-room" >>= fun _ => Builtin.List.listTouch (.ref S) >>= fun _ => again (.builtin "list.extend.loop" ⟨[.ref S, .ref z, res], []⟩)) _ _ _
  refine wpAny_bind (wpAny_rule ?_)
  refine wpAny_bind ?_
  show wpAny _ A.in1 (updateSeq S (·.push .none) >>= fun _ => updateSeq S (·.pop)) _ _ _
  refine wpAny_bind (wpAny_updateSeq hSl rfl ?_)
  have q2 := Heap.get?_update_self (Obj.mapSeq (·.push Value.none)) hSl rfl
  refine wpAny_updateSeq (hz := by seq_fits) q2 rfl ?_
  have q3 := Heap.get?_update_self (Obj.mapSeq (·.pop)) q2 rfl
  have oth : ∀ b o, b ≠ S → s.heap.get? b = some o → ((s.heap.update S (Obj.mapSeq (·.push Value.none))).update S (Obj.mapSeq (·.pop))).get? b = some o :=
    fun b o hb e => (Heap.get?_update_other _ _ (Ne.symm hb)).trans ((Heap.get?_update_other _ _ (Ne.symm hb)).trans e)
  have usz : ((s.heap.update S (Obj.mapSeq (·.push Value.none))).update S (Obj.mapSeq (·.pop))).objs.size = s.heap.objs.size := (Heap.SameBut.update ..).1.trans (Heap.SameBut.update ..).1
  refine wpAny_pure ⟨plainId_quiet F.plain_extend_loop _, zip_extend_loop hh D S hS res hN hn _ 0 _ #[] _ rfl (Nat.zero_le _) (Z.frame hS oth ⟨_, q3⟩) ?_ q3 ⟨rfl, fun j hj => absurd hj (Nat.not_lt_zero _)⟩ fun h' acc' c' hk hS' P => ?_⟩
  · show N ≤ ((s.heap.update S _).update S _).objs.size
    rw [usz]; exact hsz
  · exact hR h' acc' c' (fun c o c1 c2 c3 c4 c5 c6 e => hk c o c1 c2 c3 c4 c5 c6 (oth c o c6 e)) hS' P
theorem zip_list_init {R : Result → Shared → Prop} {z TI TO i1 i2 l1 l2 N : Addr} {xs ys : Array Value} (hh : A.handled = none) (D : ZipApart z TI TO i1 i2 l1 l2) (S : Addr) (hS : S ∉ [z, TI, TO, i1, i2, l1, l2])
    (hN : ∀ c ∈ [z, TI, TO, i1, i2, S], c < N) (hn : min xs.size ys.size ≤ sizeLine) (hz : IsZip s.heap z TI TO .none) (Z : ZAt z TI TO i1 i2 l1 l2 xs ys 0 s.heap) (hsz : N ≤ s.heap.objs.size) (hSl : s.heap.get? S = some { cls := .type "list", data := .seq #[] })
    (hR : ∀ h' acc' c', (∀ c o, c < N → c ≠ z → c ≠ TO → c ≠ i1 → c ≠ i2 → c ≠ S → s.heap.get? c = some o → h'.get? c = some o) → h'.get? S = some { cls := .type "list", dict := none, data := .seq acc' c', slots := #[] } → PairsAt h' N xs ys acc' (min xs.size ys.size) → R (.ok (.ret .none)) { s with heap := h' }) :
    wpAny (model prog w) A.in1 (Builtin.«list.__init__» ⟨[.ref S, .ref z], []⟩)
      (fun fin s' => match fin with | .done f => R (.ok f) s' | .again c' => c'.quiet = true ∧ codeAny (model prog w) A c' R s') (fun e s' => R (.error e) s') s := by
  have hSz : S ≠ z := fun e => hS (by rw [e]; simp)
  show wpAny _ A.in1 (do let old ← Builtin.List.listItems (.ref S); Builtin.List.listUpdate (.ref S) (fun _ => #[]); letGo old.toList.reverse; Builtin.List.listExtendWith (.ref S) (.ref z) .none) _ _ s
  refine wpAny_bind ?_
  unfold Builtin.List.listItems
  refine wpAny_bind (wpAny_seqItems hSl rfl (wpAny_pure ?_))
  show wpAny _ A.in1 (updateSeq S (fun _ => #[]) >>= fun _ => letGo (#[] : Array Value).toList.reverse >>= fun _ => Builtin.List.listExtendWith (.ref S) (.ref z) .none) _ _ s
  refine wpAny_bind (wpAny_updateSeq hSl rfl ?_)
  have q2 := Heap.get?_update_self (Obj.mapSeq (fun _ => (#[] : Array Value))) hSl rfl
  have oth : ∀ b o, b ≠ S → s.heap.get? b = some o → (s.heap.update S (Obj.mapSeq (fun _ => (#[] : Array Value)))).get? b = some o :=
    fun b o hb e => (Heap.get?_update_other _ _ (Ne.symm hb)).trans e
  have usz : (s.heap.update S (Obj.mapSeq (fun _ => (#[] : Array Value)))).objs.size = s.heap.objs.size := (Heap.SameBut.update ..).1
  refine wpAny_bind (wpAny_letGo ?_)
  refine zip_extend hh D S hS .none _ hN hn (oth z _ (Ne.symm hSz) hz) (Z.frame hS oth ⟨_, q2⟩) (by show N ≤ (s.heap.update S _).objs.size; rw [usz]; exact hsz) q2 fun h' acc' c' hk hS' P => ?_
  exact hR h' acc' c' (fun c o c1 c2 c3 c4 c5 c6 e => hk c o c1 c2 c3 c4 c5 c6 (oth c o c6 e)) hS' P
/-- list(z), z a zip that is new -/
theorem call_list_zip {Q : Value → Shared → Prop} {z TI TO i1 i2 l1 l2 : Addr} {xs ys : Array Value} (hh : A.handled = none) (D : ZipApart z TI TO i1 i2 l1 l2) (hlt : ∀ c ∈ [z, TI, TO, i1, i2, l1, l2], c < s.heap.objs.size)
    (hn : min xs.size ys.size ≤ sizeLine) (hz : IsZip s.heap z TI TO .none) (Z : ZAt z TI TO i1 i2 l1 l2 xs ys 0 s.heap)
    (hQ : ∀ h' acc' c', (∀ c o, c ≠ z → c ≠ TO → c ≠ i1 → c ≠ i2 → s.heap.get? c = some o → h'.get? c = some o) → h'.get? s.heap.objs.size = some { cls := .type "list", dict := none, data := .seq acc' c', slots := #[] } → PairsAt h' (s.heap.objs.size + 1) xs ys acc' (min xs.size ys.size) → Q (.ref s.heap.objs.size) { s with heap := h' }) :
    wpAny (model prog w) A (call (.type "list") [.ref z]) Q E s := by
  refine callType_codes (Q₁ := fun obj s₁ => obj = .ref s.heap.objs.size ∧ s₁ = { s with heap := s.heap.push { cls := .type "list", data := .seq #[] } }) F.called_list (F.typeCall_list_1 _) F.entry_list_init
    (code_list_new _ ⟨rfl, rfl⟩) fun obj s₁ h₁ => ?_
  obtain ⟨rfl, rfl⟩ := h₁
  have hS : (s.heap.push { cls := .type "list", data := .seq #[] }).get? s.heap.objs.size = some { cls := .type "list", data := .seq #[] } := Heap.get?_push_size _ rfl
  have up : ∀ c o, s.heap.get? c = some o → (s.heap.push { cls := .type "list", data := .seq #[] }).get? c = some o := fun c o e => Heap.get?_push_of_some _ e
  have nin : s.heap.objs.size ∉ [z, TI, TO, i1, i2, l1, l2] := fun m => Nat.lt_irrefl _ (hlt _ m)
  refine ⟨⟨_, hS, rfl⟩, F.args_list_init_2 _ _, zip_list_init (A := A.in1) (N := s.heap.objs.size + 1) hh D _ nin (fun c hc => ?_) hn (up _ _ hz) (Z.frame nin (fun c o _ e => up c o e) ⟨_, hS⟩) (Nat.le_of_eq (Heap.size_push ..).symm) hS fun h' acc' c' hk hS' P => ?_⟩
  · simp only [List.mem_cons, List.not_mem_nil, or_false] at hc hlt
    rcases hc with rfl | rfl | rfl | rfl | rfl | rfl
    · exact Nat.lt_succ_of_lt (hlt _ (by simp))
    · exact Nat.lt_succ_of_lt (hlt _ (by simp))
    · exact Nat.lt_succ_of_lt (hlt _ (by simp))
    · exact Nat.lt_succ_of_lt (hlt _ (by simp))
    · exact Nat.lt_succ_of_lt (hlt _ (by simp))
    · exact Nat.lt_succ_self _
  · exact ⟨rfl, hQ h' acc' c' (fun c o c2 c3 c4 c5 e => hk c o (Nat.lt_succ_of_lt (Heap.lt_size e)) c2 c3 c4 c5 (Nat.ne_of_lt (Heap.lt_size e)) (up c o e)) hS' P⟩
end

/-! ### what the layer says of it -/
def layT (H : Hp) : List Addr → List (V × V) → Hp
  | T :: Ts, p :: ps => layT (upd H T (.tup [p.1, p.2])) Ts ps
  | _, _ => H
theorem lay_ne : ∀ (Ts : List Addr) (ps : List (V × V)) (H : Hp) (b : Addr), b ∉ Ts → layT H Ts ps b = H b
  | [], _, _, _, _ => by unfold layT; rfl
  | _ :: _, [], _, _, _ => by unfold layT; rfl
  | T :: Ts, p :: ps, H, b, hb => by
    unfold layT
    rw [lay_ne Ts ps _ b fun m => hb (List.mem_cons_of_mem _ m), upd_ne fun e => hb (by rw [e]; exact List.mem_cons_self)]
theorem lay_hok {P : Program} {w : World} {h : Heap} : ∀ (Ts : List Addr) (ps : List (V × V)) (H : Hp), HOk P w H h → (∀ T ∈ Ts, H T = none) → Ts.Nodup → (∀ (i : Nat) (T : Addr) (p : V × V), Ts[i]? = some T → ps[i]? = some p → ∃ u v, RelV p.1 u ∧ RelV p.2 v ∧ IsPair h T u v) → HOk P w (layT H Ts ps) h
  | [], _, _, x, _, _, _ => by unfold layT; exact x
  | _ :: _, [], _, x, _, _, _ => by unfold layT; exact x
  | T :: Ts, p :: ps, H, x, hn, nd, hp => by
    unfold layT
    obtain ⟨u, v, ru, rv, ip⟩ := hp 0 T p rfl rfl
    have nd2 := List.nodup_cons.mp nd
    refine lay_hok Ts ps _ (x.laidN (fun _ _ e => e) (hn T List.mem_cons_self) ⟨show 2 ≤ sizeLine by decide, [u, v], .cons ru (.cons rv .nil), ?_⟩) (fun T' hT' => ?_) nd2.2 fun i T' q e1 e2 => hp (i + 1) T' q (by simpa using e1) (by simpa using e2)
    · exact ⟨_, ip, rfl, 0, rfl⟩
    · rw [upd_ne fun e => nd2.1 (by rw [← e]; exact hT')]
      exact hn T' (List.mem_cons_of_mem _ hT')
theorem un_many {fs ex : List Addr} {H H' : Hp} {h h' : Heap} (k : ∀ b u, h.get? b = some u → h'.get? b = some u) (hH : ∀ b, b < h.objs.size → H' b = H b) (hs : ∀ b o, H b = some o → H' b = some o) : Un fs ex H H' h h' where
  keep := fun b u q _ _ _ => k b u q
  slot := fun b u q _ _ _ => ⟨u.slots, k b u q⟩
  free := fun b u q n _ => by rw [hH b (Heap.lt_size q)]; exact n
  there := fun b u q _ => ⟨u, k b u q⟩
  tups := fun b xs q => hs b _ q
  frzs := fun b u xs q => hs b _ q
  tbls := fun b ps q => ⟨#[], by rw [hs b _ q]; simp⟩
theorem vals_refs : ∀ Ts : List Addr, Vals (Ts.map V.ref) (Ts.map Value.ref)
  | [] => .nil
  | _ :: Ts => .cons rfl (vals_refs Ts)
def tLz (K : PySem.W.Frag) (ta : TA) : TE := fun σ H Q => ta σ H fun vs H1 => ∃ (a b : Addr) (xs ys : List V), vs = [.ref a, .ref b] ∧ SqL K H1 a xs ∧ SqL K H1 b ys ∧
  ∀ (Ts : List Addr) (S : Addr), Ts.length = min xs.length ys.length → (∀ T ∈ S :: Ts, H1 T = none) → (S :: Ts).Nodup → Q (.ref S) (upd (layT H1 Ts (xs.zip ys)) S (.lst (Ts.map .ref)))
theorem pe_lzip {X : Cx} {e e2 : Expr} {ta : TA} {p0 pos p pos2 : Pos} (hc : X.calm = true) (hgl : Gl X "list") (hml : X.mg "list" = none) (hg : Gl X "zip") (hm : X.mg "zip" = none) (ha : PA X [e, e2] ta)
    (hs1 : starEach [.Call (.Name "zip" p) [e, e2] [] pos2] X.env = (false, eval (.Call (.Name "zip" p) [e, e2] [] pos2) X.env) :: starEach [] X.env := by rfl)
    (hp1 : (backTo pos (starEach [] X.env)).any (·.1) = false := by rfl) (hs : starEach [e, e2] X.env = (false, eval e X.env) :: starEach [e2] X.env := by rfl) (hpl : (backTo pos2 (starEach [e2] X.env)).any (·.1) = false := by rfl) :
    PE X (.Call (.Name "list" p0) [.Call (.Name "zip" p) [e, e2] [] pos2] [] pos) (tLz X.K ta) := by
  refine ⟨fun pins s σ H Q I h => ?_⟩
  refine wpAny_Call_Name_kw (ld_blt I hgl hml PyProof.Rows.boot_list ?_)
  refine PyProof.Rows.callWith_type1 ?_ hs1 hp1
  rw [hs1]
  show wpAny _ _ (spliced ((false, eval (.Call (.Name "zip" p) [e, e2] [] pos2) X.env) :: backTo pos (starEach [] X.env))) _ _ s
  refine Calls.spliced_cons ?_
  refine wpAny_Call_Name_kw (ld_blt I hg hm PyProof.Rows.boot_zip ?_)
  refine PyProof.Rows.callWith_type1 (thn (ha.run pos2 pins s σ H _ I h) fun us s1 ⟨vs, H1, I1, r1, q1⟩ => ?_) hs hpl
  obtain ⟨a, b, xs, ys, ex, hqx, hqy, q⟩ := q1
  subst ex
  cases r1 with
  | cons r rr =>
    cases rr with
    | cons r' rr =>
      cases rr
      cases r
      cases r'
      obtain ⟨its, rv, p1, hz1⟩ := I1.list hqx
      obtain ⟨its2, rv2, p2, hz2⟩ := I1.list hqy
      have la : a < s1.heap.objs.size := p1.lt
      have lb : b < s1.heap.objs.size := p2.lt
      have len1 := rv.length
      have len2 := rv2.length
      refine call_zip_2 p1.isList p2.isList fun h' hz hTI hTO h1 h2 hsz hk => Calls.spliced_nil ?_
      have D := PySem.W.ktu_apart s1.heap.objs.size a b la lb
      have hh : X.A.handled = none := I1.ok.hd hc
      refine call_list_zip (s := { s1 with heap := h' }) hh D (fun c hcm => ?_) (by simp; omega) hz ⟨.inl hz, hTI, ⟨_, _, hTO⟩, h1, h2, p1.isList.at fun o e => hk _ o e, p2.isList.at fun o e => hk _ o e⟩ fun h2 acc c hk2 hS P => ?_
      · show c < h'.objs.size
        rw [hsz]
        simp only [List.mem_cons, List.not_mem_nil, or_false] at hcm
        rcases hcm with z | z | z | z | z | z | z <;> (rw [z]; first | exact Nat.add_lt_add_left (by decide) _ | exact Nat.lt_add_of_pos_right (by decide) | exact Nat.lt_of_lt_of_le la (Nat.le_add_right _ _) | exact Nat.lt_of_lt_of_le lb (Nat.le_add_right _ _))
      · have ks : ∀ c o, s1.heap.get? c = some o → h2.get? c = some o := fun c o e => by
          have lt := Heap.lt_size e
          exact hk2 c o (Nat.ne_of_lt (Nat.lt_of_lt_of_le lt (Nat.le_add_right _ _))) (Nat.ne_of_lt (Nat.lt_of_lt_of_le lt (Nat.le_add_right _ _))) (Nat.ne_of_lt lt) (Nat.ne_of_lt (Nat.lt_of_lt_of_le lt (Nat.le_add_right _ _))) (hk c o e)
        have hS : h2.get? h'.objs.size = some { cls := .type "list", dict := none, data := .seq acc c, slots := #[] } := hS
        have P : PairsAt h2 (h'.objs.size + 1) its.toArray its2.toArray acc (min its.toArray.size its2.toArray.size) := P
        have hge : s1.heap.objs.size ≤ h'.objs.size := by rw [hsz]; exact Nat.le_add_right _ _
        obtain ⟨Ts, eT⟩ : ∃ Ts : List Addr, acc.toList = Ts.map Value.ref := by
          have : ∀ l : List Value, (∀ j, j < l.length → ∃ T : Addr, l[j]? = some (.ref T)) → ∃ Ts : List Addr, l = Ts.map Value.ref := by
            intro l
            induction l with
            | nil => exact fun _ => ⟨[], rfl⟩
            | cons v l ih =>
              intro hl
              obtain ⟨T, e⟩ := hl 0 (by simp)
              obtain ⟨Ts, e2⟩ := ih fun j hj => by
                obtain ⟨T, e⟩ := hl (j + 1) (by simpa using hj)
                exact ⟨T, by simpa using e⟩
              refine ⟨T :: Ts, ?_⟩
              rw [List.map_cons, ← e2]
              congr 1
              simpa using e
          refine this _ fun j hj => ?_
          obtain ⟨T, _, _, e, _⟩ := P.2 j (by rw [← P.1]; simpa using hj)
          exact ⟨T, by simpa using e⟩
        have eA : ∀ j : Nat, acc[j]? = (Ts[j]?).map Value.ref := fun j => by
          rw [← Array.getElem?_toList, eT, List.getElem?_map]
        have hlT : Ts.length = min xs.length ys.length := by
          have := congrArg List.length eT
          simp only [Array.length_toList, List.length_map] at this
          rw [← this, P.1]
          simp; omega
        have inf : ∀ j T, Ts[j]? = some T → ∃ x y, h'.objs.size + 1 ≤ T ∧ its[j]? = some x ∧ its2[j]? = some y ∧ IsPair h2 T x y ∧ ∀ j', j' < j → Ts[j']? ≠ some T := fun j T e => by
          have hj : j < min its.toArray.size its2.toArray.size := by
            have := (List.getElem?_eq_some_iff.mp e).1
            simp; omega
          obtain ⟨T', x, y, q1, q2, q3, q4, q5, q6, q7⟩ := P.2 j hj
          rw [eA, e] at q1
          cases q1
          exact ⟨x, y, q2, by simpa using q4, by simpa using q5, q6, fun j' hj' e' => q7 j' hj' (by rw [eA, e']; rfl)⟩
        have geT : ∀ T ∈ Ts, h'.objs.size + 1 ≤ T := fun T hT => by
          obtain ⟨j, e⟩ := List.getElem?_of_mem hT
          obtain ⟨_, _, q, _⟩ := inf j T e
          exact q
        have nd : Ts.Nodup := by
          rw [List.Nodup, List.pairwise_iff_getElem]
          intro i j hi hj hij e
          have ej := List.getElem?_eq_getElem hj
          obtain ⟨_, _, _, _, _, _, q⟩ := inf j Ts[j] ej
          exact q i hij (by rw [List.getElem?_eq_getElem hi, e])
        have fresh : ∀ T ∈ h'.objs.size :: Ts, H1 T = none := fun T hT => by
          rcases List.mem_cons.mp hT with rfl | hT
          · exact I1.hok.fresh hge
          · exact I1.hok.fresh (Nat.le_trans hge (Nat.le_of_succ_le (geT T hT)))
        have nS : h'.objs.size ∉ Ts := fun m => Nat.lt_irrefl _ (geT _ m)
        have ndS : (h'.objs.size :: Ts).Nodup := List.nodup_cons.mpr ⟨nS, nd⟩
        refine ⟨.ref h'.objs.size, upd (layT H1 Ts (xs.zip ys)) h'.objs.size (.lst (Ts.map .ref)), ?_, rfl, q Ts h'.objs.size hlT fresh ndS⟩
        have hLS : layT H1 Ts (xs.zip ys) h'.objs.size = none := by rw [lay_ne Ts _ _ _ nS]; exact fresh _ List.mem_cons_self
        have k1 : HOk X.prog X.w H1 h2 := I1.hok.kept ks
        have k2 : HOk X.prog X.w (layT H1 Ts (xs.zip ys)) h2 := lay_hok Ts _ _ k1 (fun T hT => fresh T (List.mem_cons_of_mem _ hT)) nd fun i T pq e1 e2 => by
          obtain ⟨x, y, _, q4, q5, q6, _⟩ := inf i T e1
          rw [List.getElem?_zip_eq_some] at e2
          obtain ⟨u, eu, ru⟩ := rv.get e2.1
          obtain ⟨v, ev, rv'⟩ := rv2.get e2.2
          rw [q4] at eu
          rw [q5] at ev
          cases eu
          cases ev
          exact ⟨x, y, ru, rv', q6⟩
        have vT : Vals (Ts.map V.ref) (Ts.map Value.ref) := vals_refs Ts
        have k3 : HOk X.prog X.w (upd (layT H1 Ts (xs.zip ys)) h'.objs.size (.lst (Ts.map .ref))) h2 := k2.laidN (fun _ _ e => e) hLS ⟨by rw [List.length_map, hlT]; omega, Ts.map .ref, c, vT, by rw [← eT]; exact hS⟩
        refine I1.un (un_many ks (fun b hb => ?_) fun b o e => ?_) k3
        · rw [upd_ne (Nat.ne_of_lt (Nat.lt_of_lt_of_le hb hge)), lay_ne]
          exact fun m => Nat.lt_irrefl _ (Nat.lt_of_lt_of_le hb (Nat.le_trans hge (Nat.le_of_succ_le (geT b m))))
        · have nb : b ∉ h'.objs.size :: Ts := fun m => by rw [fresh b m] at e; cases e
          rw [upd_ne (fun z => nb (by rw [z]; exact List.mem_cons_self)), lay_ne _ _ _ _ fun m => nb (List.mem_cons_of_mem _ m)]
          exact e
end Ev

set_option Elab.async false
set_option linter.all false
set_option maxRecDepth 100000
set_option maxHeartbeats 4000000
namespace Ev
open PySem PySem.Spec PyProof.Rows L2
section
variable {prog : Program} {w : World} {A : Around} {E : Value → Shared → Prop} {s : Shared}
theorem fm_congr {α β : Type} {f g : α → Option β} : ∀ {l : List α}, (∀ x ∈ l, f x = g x) → l.filterMap f = l.filterMap g
  | [], _ => rfl
  | x :: l, h => by
    rw [List.filterMap_cons, List.filterMap_cons, h x List.mem_cons_self, fm_congr fun y hy => h y (List.mem_cons_of_mem _ hy)]
theorem rev_pick (xs : Array Value) : ((List.range xs.size).filterMap fun (m : Nat) => xs[((xs.size : Int) - 1 + (m : Int) * (-1)).toNat]?).toArray = xs.toList.reverse.toArray := by
  rw [← PySem.W.krv_pick]
  unfold slicePick
  rw [PySem.W.krv_bounds, PySem.W.krv_sliceRange, List.filterMap_map]
  congr 1
  apply fm_congr
  intro m hm
  have := List.mem_range.mp hm
  show xs[((xs.size : Int) - 1 + (m : Int) * (-1)).toNat]? = xs[xs.size - 1 - m]?
  congr 1
  omega
/-- t[::-1], a tuple -/
theorem getItem_tuple_rev {t sl : Addr} {items : Array Value} {vs : Value} {Q : Value → Shared → Prop} (ht : IsTup s.heap t items) (hs : s.heap.IsSliceOf sl .none .none vs) (ps : IsPart vs (some (-1)))
    (h : Q (.ref s.heap.objs.size) { s with heap := s.heap.push { cls := .type "tuple", data := .seq items.toList.reverse.toArray } }) (hsz : items.size ≤ sizeLine) : wpAny (model prog w) A (getItem (.ref t) (.ref sl)) Q E s := by
  obtain ⟨os, hos, hcs, hds⟩ := id hs
  have hT : s.TypeIs (.ref sl) "slice" := ⟨os, hos, hcs⟩
  have ok : sizeOk (.seq items.toList.reverse.toArray) := by
    show items.toList.reverse.toArray.size ≤ sizeLine
    simpa using hsz
  unfold getItem
  try with_reducible refine wpAny_holding ?_
  first | refine wpAny_bind (wpAny_pure ?_) | skip
  refine wpAny_bind (wpAny_sequenceKey ht.typeIs (by decide) (wpAny_bind ?_))
  refine wpAny_callSpecial?_slot (name := Str.ofString "__getitem__") ht.typeIs slot_tuple_getitem (wpAny_call_entry slot_tuple_getitem ht.typeIs entry_tuple_getitem ?_ (args_tuple_getitem _ _))
  show wpAny _ _ (Builtin.Tuple.tupleItemsOf (.ref t) >>= _) _ _ s
  refine wpAny_bind (tupleItemsOf_ ht (wpAny_bind (wpAny_typeOf hT ?_)))
  rw [if_pos (by decide)]
  refine wpAny_bind ?_
  unfold Builtin.Slice.sliceApplied Builtin.Slice.sliceFields
  refine wpAny_bind (wpAny_bind (wpAny_field hos hds (x := .none) rfl (wpAny_bind (wpAny_field hos hds (x := .none) rfl (wpAny_bind (wpAny_field hos hds (x := vs) rfl (wpAny_pure ?_)))))))
  refine wpAny_bind (HT.slicePart_ ps ?_)
  show wpAny _ _ (if ((-1 : Int) == 0) = true then _ else _) _ _ s
  rw [if_neg (by decide)]
  refine wpAny_bind (HT.slicePart_ .none (wpAny_bind (HT.slicePart_ .none (wpAny_bind (wpAny_pure ?_)))))
  have e1 : Builtin.Slice.sliceAdjust none none (-1) (items.size : Int) = ((items.size : Int) - 1, -1) := rfl
  have e2 : Builtin.Slice.slicePlaces ((items.size : Int) - 1) (-1) (-1) = items.size := by
    unfold Builtin.Slice.slicePlaces
    rw [if_neg (by decide)]
    split
    · rw [show -(-1 : Int) = 1 from rfl, Int.ediv_one]; omega
    · omega
  show wpAny _ _ (match Builtin.Slice.sliceAdjust none none (-1) (items.size : Int) with | (lo, hi) => pure (lo, (-1 : Int), Builtin.Slice.slicePlaces lo hi (-1))) _ _ s
  rw [e1]
  show wpAny _ _ (pure ((items.size : Int) - 1, (-1 : Int), Builtin.Slice.slicePlaces ((items.size : Int) - 1) (-1) (-1))) _ _ s
  rw [e2]
  refine wpAny_pure ?_
  have hno : ¬ ((((items.size : Int) - 1) == 0 && (-1 : Int) == 1 && items.size == items.size) = true) := by
    intro q
    rw [Bool.and_eq_true, Bool.and_eq_true] at q
    exact absurd q.1.2 (by decide)
  show wpAny _ _ (if (((items.size : Int) - 1) == 0 && (-1 : Int) == 1 && items.size == items.size) = true then _ else _) _ _ s
  rw [if_neg hno, rev_pick]
  first
    | exact wpAny_bind (m := Builtin.Tuple.tupleExact _) (wpAny_newObj_type (wpAny_pure ⟨_, rfl, wpAny_pure h⟩) ok)
    | exact wpAny_bind (m := Builtin.Tuple.tupleExact _) (wpAny_newObj_type (wpAny_bind (wpAny_pure (wpAny_pure ⟨_, rfl, wpAny_pure h⟩))) ok)
    | exact wpAny_bind (wpAny_bind (m := Builtin.Tuple.tupleExact _) (wpAny_newObj_type (wpAny_pure (wpAny_pure ⟨_, rfl, wpAny_pure h⟩)) ok))
    | exact wpAny_bind (wpAny_bind (m := Builtin.Tuple.tupleExact _) (wpAny_newObj_type (wpAny_pure ⟨_, rfl, wpAny_pure h⟩) ok))
end
section
variable {X : Cx} {cf : CF} {a b : Expr} {ia ib : E} {pos p p2 : Pos}
def tRevT (K : PySem.W.Frag) (te : TE) : TE := fun σ H Q => te σ H fun x H1 => ∃ a xs, x = .ref a ∧ SqT K H1 a xs ∧ ∀ p, H1 p = none → Q (.ref p) (upd H1 p (.tup xs.reverse))
theorem pe_revT {e : Expr} {te : TE} {k : Nat} {p1 p2 p3 pos : Pos} (he : PE X e te) : PE X (.Subscript e (.Slice none none (some (.UnaryOp .USub (.Constant (.int 1) k p1) p2)) p3) pos) (tRevT X.K te) := by
  refine ⟨fun pins s σ H Q I h => Subscript_ (thn (he.run pins s σ H _ I h) fun v s1 ⟨x, H1, I1, r1, a, xs, ex, hx, q⟩ => ?_)⟩
  subst ex
  cases r1
  have part : PO X (some (.UnaryOp .USub (.Constant (.int 1) k p1) p2)) (tPart (tUn (rU fun i => .int (-i)) (L2.tC (.int 1)))) := po_some (pe_un un_neg pe_int)
  refine wpAny_Slice (thn (po_none.run pins s1 σ H1 (fun o H2 => o = none ∧ H2 = H1) I1 ⟨rfl, rfl⟩) ?_)
  rintro vl s2 ⟨l, H2, I2, pl, rfl, rfl⟩
  refine thn (po_none.run pins s2 σ H2 (fun o H3 => o = none ∧ H3 = H2) I2 ⟨rfl, rfl⟩) ?_
  rintro vu s3 ⟨u, H3, I3, pu, rfl, rfl⟩
  refine thn (part.run pins s3 σ H3 (fun o H4 => o = some (-1) ∧ H4 = H3) I3 ⟨1, rfl, -1, rfl, rfl, rfl⟩) ?_
  rintro vs s4 ⟨o, H4, I4, ps, rfl, rfl⟩
  cases pl
  cases pu
  have I5 : Inv X pins σ H4 { s4 with heap := s4.heap.push { cls := .type "slice", data := .fields #[.none, .none, vs] } } := I4.kept (t' := s4.toks) fun b ob q => Heap.get?_push_of_some _ q
  obtain ⟨its, r, ht, hz⟩ := I5.tuple hx
  have hl := r.length
  show wpAny (model X.prog X.w) X.A (subscriptTail e (.Slice none none (some (.UnaryOp .USub (.Constant (.int 1) k p1) p2)) p3) (.ref a) (.ref s4.heap.objs.size)) _ X.xe { s4 with heap := s4.heap.push { cls := .type "slice", data := .fields #[.none, .none, vs] } }
  refine tail_any (ops := [.ref a, .ref s4.heap.objs.size]) ht.typeIs slot_tuple_getitem.lookup (getItem_tuple_rev ht (Heap.IsSliceOf.new _ .none .none vs) ps ?_ (by rw [List.size_toArray]; omega)) (by with_unfolding_all rfl)
  refine ⟨.ref _, _, I5.laid (t' := s4.toks) (o := .tup xs.reverse) (fun b ob q => Heap.get?_push_of_some _ q) (Nat.le_refl _) ?_, rfl, q _ (I5.hok.fresh (Nat.le_refl _))⟩
  exact ⟨by rw [List.length_reverse]; exact hz, _, r.reverse, IsTup.new _ _⟩
theorem ev_rev {k : Nat} {p1 p2 p3 : Pos} (ha : PEv X cf a ia) : PEv X cf (.Subscript a (.Slice none none (some (.UnaryOp .USub (.Constant (.int 1) k p1) p2)) p3) pos) (.rev ia) := by
  have both : PE X (.Subscript a (.Slice none none (some (.UnaryOp .USub (.Constant (.int 1) k p1) p2)) p3) pos) (fun σ H Q => tRevL X.K (tE X.K (evE cf ia)) σ H Q ∨ tRevT X.K (tE X.K (evE cf ia)) σ H Q) :=
    ⟨fun pins s σ H Q I q => q.elim (fun q => (pe_revL ha).run pins s σ H Q I q) fun q => (pe_revT ha).run pins s σ H Q I q⟩
  refine PE.of both fun σ H Q ⟨ρ, env, h, hr, er, w⟩ => ?_
  obtain ⟨x, h1, e1, w1⟩ := Wd.bind w
  cases x with
  | tup xs =>
    refine .inr ⟨ρ, env, h, hr, er, wd_sure e1 fun ρ1 H1 s1 r1 v rv => ?_⟩
    obtain ⟨q, vs, rfl, sa, ra⟩ := rv
    exact ⟨q, vs, rfl, sa, Wd.tup (w1 ρ1 H1 s1 r1) r1 ra.reverse⟩
  | obj n =>
    refine .inl ⟨ρ, env, h, hr, er, wd_sure e1 fun ρ1 H1 s1 r1 v rv => ?_⟩
    have w2 := w1 ρ1 H1 s1 r1
    simp only [revop] at w2
    split at w2
    · rename_i xs e
      obtain ⟨q, vs, rfl, _, sa, ra⟩ := Rep.seq r1 rv e
      exact ⟨q, vs, rfl, sa, Wd.lst w2 r1 ra.reverse⟩
    · exact w2.bad.elim
  | _ =>
    obtain ⟨d, hh, e, _⟩ := w
    have e : (evE cf ia env h).bind _ = .ok d hh := e
    rw [e1] at e
    cases e
/-- repr of lists and tuples of plain data -/
theorem call_reprD (hG : X.A.guards = some []) (hu : X.A.units + 64 < cLine) : CallR X (.builtin "repr") (fun xs H Q => ∃ (a : Addr) (p : PyData), xs = [.ref a] ∧ Dp X.K H (.ref a) p ∧ p.showable = true ∧ p.hasDict = false ∧ p.depth ≤ 60 ∧ p.shown.length ≤ sizeLine ∧ Q (.str p.shown) H) := by
  intro pins s σ H xs us Q I r h
  obtain ⟨a, p, rfl, dp, h1, h2, h3, h4, q⟩ := h
  obtain ⟨u, rfl, ru⟩ := r.one
  cases ru
  obtain ⟨as, rd⟩ := Dp.reads I p _ _ dp rfl
  exact repr_of_reads' rd h1 (PyData.noDict_hsm h2) hG (by omega) (fun _ _ e => e) (fun h' u tk hk => ⟨.str p.shown, H, I.kept (t' := tk) hk, ⟨_, rfl⟩, q⟩) h4
theorem bi_repr {k : Nat} (hG : X.A.guards = some []) (hr : Room k X.A) : BiOk X .repr := by
  refine ⟨_, call_reprD hG (by have := hr.un; omega), fun ρ h H xs vs Q hr rx w => ?_, fun ρ h H xs vs p Q hr rx sl w => w.bad.elim⟩
  match xs, rx with
  | [], _ => exact w.bad.elim
  | _ :: _ :: _, _ => rename_i a b c _; cases a <;> cases b <;> exact w.bad.elim
  | [x], rx =>
    obtain ⟨v, rfl, rv⟩ := reps1 rx
    have w : Wd X.K ρ H (match toP h 8 x with
      | some p => if (isRefD x && p.showable && !p.hasDict && decide (p.depth ≤ 60) && decide (p.shown.length ≤ sizeLine)) = true then .ok (.str p.shown) h else .bad
      | none => .bad) (QP X.K Q) := by
      cases x <;> exact w
    split at w
    · rename_i p e
      split at w
      · rename_i c
        simp only [Bool.and_eq_true, Bool.not_eq_true', decide_eq_true_eq] at c
        obtain ⟨⟨⟨⟨c1, c2⟩, c3⟩, c4⟩, c5⟩ := c
        have dp := toP_dp hr 8 x v p rv e
        have hv : ∃ a, v = .ref a := by
          cases x with
          | tup _ => obtain ⟨a, _, e, _⟩ := rv; exact ⟨a, e⟩
          | rol _ => obtain ⟨a, _, e, _⟩ := rv; exact ⟨a, e⟩
          | obj _ => obtain ⟨a, _, e⟩ := rv; exact ⟨a, e⟩
          | _ => cases c1
        obtain ⟨a, rfl⟩ := hv
        exact ⟨a, p, rfl, dp, c2, c3, c4, c5, Wd.val w hr rfl⟩
      · exact w.bad.elim
    · exact w.bad.elim
theorem lay_rel {K : PySem.W.Frag} {ρ : List Addr} {h : Hh} : ∀ (Ts : List Addr) (xs ys : List D) (vs us : List V) (H : Hp), HRel K ρ h H → Reps K ρ H xs vs → Reps K ρ H ys us → Ts.length = min vs.length us.length → (∀ T ∈ Ts, H T = none) → Ts.Nodup →
    Stp ρ H ρ (layT H Ts (vs.zip us)) ∧ HRel K ρ h (layT H Ts (vs.zip us)) ∧ Reps K ρ (layT H Ts (vs.zip us)) (zipD xs ys) (Ts.map .ref)
  | [], [], ys, vs, us, H, r, rx, ry, hl, hn, nd => by
    cases (show vs = [] from rx)
    exact ⟨.refl, r, rfl⟩
  | [], x :: xs, [], vs, us, H, r, rx, ry, hl, hn, nd => by
    cases (show us = [] from ry)
    exact ⟨.refl, r, rfl⟩
  | [], x :: xs, y :: ys, vs, us, H, r, ⟨v, vs', e1, _, _⟩, ⟨u, us', e2, _, _⟩, hl, hn, nd => by
    subst e1 e2
    simp at hl
  | T :: Ts, [], ys, vs, us, H, r, rx, ry, hl, hn, nd => by
    cases (show vs = [] from rx)
    simp at hl
  | T :: Ts, x :: xs, [], vs, us, H, r, rx, ry, hl, hn, nd => by
    cases (show us = [] from ry)
    simp at hl
  | T :: Ts, x :: xs, y :: ys, vs, us, H, r, ⟨v, vs', e1, a1, b1⟩, ⟨u, us', e2, a2, b2⟩, hl, hn, nd => by
    subst e1 e2
    have nT := hn T List.mem_cons_self
    have nd2 := List.nodup_cons.mp nd
    have s1 : Stp ρ H ρ (upd H T (.tup [v, u])) := .new nT
    obtain ⟨s2, r2, q2⟩ := lay_rel Ts xs ys vs' us' _ (r.junk nT) (Reps.mono s1 _ b1) (Reps.mono s1 _ b2) (by simp at hl; omega) (fun T' hT' => by
      rw [upd_ne fun e => nd2.1 (by rw [← e]; exact hT')]
      exact hn T' (List.mem_cons_of_mem _ hT')) nd2.2
    refine ⟨s1.trans s2, r2, ?_⟩
    refine ⟨.ref T, Ts.map .ref, rfl, ?_, q2⟩
    refine Rep.mono s2 (.tup [x, y]) ⟨T, [v, u], rfl, .of upd_same, ?_⟩
    exact .cons (Rep.mono s1 _ a1) (.one (Rep.mono s1 _ a2))
theorem ev_lzip {q2 : Pos} (hc : X.calm = true) (hg : Gl X "list") (hm : X.mg "list" = none) (gz : Gl X "zip") (mz : X.mg "zip" = none) (ha : PEv X cf a ia) (hb : PEv X cf b ib) (hs : isStar a = false) (hs2 : isStar b = false) :
    PEv X cf (.Call (.Name "list" p) [.Call (.Name "zip" p2) [a, b] [] q2] [] pos) (.bi .lzip (.cons ia (.cons ib .nil))) := by
  have st : starEach [a, b] X.env = (false, eval a X.env) :: starEach [b] X.env := star_cons hs
  refine PE.of (pe_lzip hc hg hm gz mz (ev_cons ha (ev_cons hb ev_nil hs2) hs) rfl rfl st (any_back fun e he => by rw [List.mem_singleton.mp he]; exact hs2)) fun σ H Q ⟨ρ, env, h, hr, er, w⟩ => ?_
  refine ⟨ρ, env, h, hr, er, (Wd.bind w).imp fun ds h1 ρ1 H1 s1 r1 w2 vs rs => ?_⟩
  match ds, rs, w2 with
  | [.obj n, .obj m], rs, w2 =>
    obtain ⟨v, r, rfl, rv, v', r', rfl, rv', e0⟩ := rs
    cases (show r' = [] from e0)
    have w2 : Wd X.K ρ1 H1 (match zipop h1 (.obj n) (.obj m) with
      | some p => if p.1.length ≤ sizeLine then (R.ok (D.obj h1.length) (h1 ++ [O.lst p.1]) : R D) else .bad
      | none => .bad) (fun d _ ρ' H' => ∀ v, Rep X.K ρ' H' d v → Q v H') := w2
    cases en : h1[n]? with
    | none => simp only [zipop, seqD, en] at w2; exact w2.bad.elim
    | some o =>
      cases em : h1[m]? with
      | none => cases o; simp only [zipop, seqD, en, em] at w2; exact w2.bad.elim
      | some o' =>
        cases o with
        | lst xs =>
        cases o' with
        | lst ys =>
          simp only [zipop, seqD, en, em] at w2
          split at w2
          · obtain ⟨a1, us, rfl, _, sa, ra⟩ := Rep.seq r1 rv en
            obtain ⟨b1, us', rfl, _, sb, rb⟩ := Rep.seq r1 rv' em
            refine ⟨a1, b1, us, us', rfl, sa, sb, fun Ts S hl fr nd => ?_⟩
            have nd2 := List.nodup_cons.mp nd
            obtain ⟨s2, r2, q2⟩ := lay_rel Ts xs ys us us' H1 r1 ra rb hl (fun T hT => fr T (List.mem_cons_of_mem _ hT)) nd2.2
            have nS : layT H1 Ts (us.zip us') S = none := by rw [lay_ne _ _ _ _ nd2.1]; exact fr S List.mem_cons_self
            exact w2.ok (ρ1 ++ [S]) _ (s2.trans (.push nS)) (r2.push nS q2) _ ⟨S, by rw [List.getElem?_append_right (by rw [r1.len]; omega), r1.len]; simp, rfl⟩
          · exact w2.bad.elim
  | [], _, w2 => exact w2.bad.elim
  | [.obj n], _, w2 =>
    have w2 : Wd X.K ρ1 H1 (match h1[n]? with
      | some (.lst xs) => biL .lzip xs h1
      | none => .bad) (fun d _ ρ' H' => ∀ v, Rep X.K ρ' H' d v → Q v H') := w2
    split at w2 <;> exact w2.bad.elim
  | [.non], _, w2 => exact w2.bad.elim
  | [.bl _], _, w2 => exact w2.bad.elim
  | [.int _], _, w2 => exact w2.bad.elim
  | [.str _], _, w2 => exact w2.bad.elim
  | [.tup _], _, w2 => exact w2.bad.elim
  | [.rol _], _, w2 => exact w2.bad.elim
  | x :: y :: z :: r, _, w2 => cases x <;> first | exact w2.bad.elim | (cases y <;> exact w2.bad.elim)
  | [.non, _], _, w2 => exact w2.bad.elim
  | [.bl _, _], _, w2 => exact w2.bad.elim
  | [.int _, _], _, w2 => exact w2.bad.elim
  | [.str _, _], _, w2 => exact w2.bad.elim
  | [.tup _, _], _, w2 => exact w2.bad.elim
  | [.rol _, _], _, w2 => exact w2.bad.elim
  | [.obj _, .non], _, w2 => exact w2.bad.elim
  | [.obj _, .bl _], _, w2 => exact w2.bad.elim
  | [.obj _, .int _], _, w2 => exact w2.bad.elim
  | [.obj _, .str _], _, w2 => exact w2.bad.elim
  | [.obj _, .tup _], _, w2 => exact w2.bad.elim
  | [.obj _, .rol _], _, w2 => exact w2.bad.elim
/-- a statement that is never come to -/
theorem evs_nev {w : Nat} {st : Stmt} : PSv X cf w st .nev := PS.of ps_never fun D σ H ⟨ρ, env, h, hr, er, w⟩ => (Wd.bad w).elim
end
end Ev

set_option Elab.async false
set_option linter.all false
set_option maxRecDepth 100000
set_option maxHeartbeats 4000000
namespace Ev
open PySem PySem.Spec PyProof.Rows L2

theorem slot_ok {T : Tx} {x : Str} {i : Nat} (h : slot T x = some i) : T.N[i]? = some x := by
  unfold slot at h
  obtain ⟨j, _, h2⟩ := Option.bind_eq_some_iff.mp h
  split at h2
  · rename_i c; cases h2; exact c
  · cases h2
theorem okB_ok {x : Str} (h : okB x = true) : (x == ("__debug__" : Str)) = false ∧ (x == ("__classdict__" : Str)) = false ∧ x ≠ ("__name__" : Str) := by
  unfold okB at h
  simp only [Bool.and_eq_true, Bool.not_eq_true', decide_eq_false_iff_not] at h
  exact ⟨h.1.1, h.1.2, h.2⟩
section
variable {Tb : Nat → Option Fd} {w k : Nat} {X : Cx} {T : Tx}
theorem Good.vis (g : Good Tb w k X T) {x : Str} (h : visB T x = true) : Vis X.env.scope x := by
  unfold visB at h
  simp only [Bool.or_eq_true, decide_eq_true_eq] at h
  rw [g.sc]
  rcases h with (h | h) | h
  · exact .inl h
  · exact .inr (.inl h)
  · exact .inr (.inr h)
theorem Good.loc (g : Good Tb w k X T) {x : Str} (h : locB T x = true) : Loc X.env.scope x ∧ (X.fn x = true ∨ X.env.scope.names.lookup x = some .local) := by
  unfold locB at h
  simp only [Bool.or_eq_true, Bool.and_eq_true, decide_eq_true_eq] at h
  rw [g.sc, g.fl]
  rcases h with h | h
  · exact ⟨.inl h, .inr h⟩
  · exact ⟨.inr h.1, .inl h.2⟩
theorem Good.glob (g : Good Tb w k X T) {x : Str} (h : glB T x = true) : Gl X x := by
  have h : T.sc.names.lookup x = some .globalImplicit := of_decide_eq_true h
  show X.env.scope.names.lookup x = _
  rw [g.sc]
  exact h
theorem Good.slot (g : Good Tb w k X T) {x : Str} {i : Nat} (h : slot T x = some i) : X.N[i]? = some x := by rw [g.hN]; exact slot_ok h
theorem Good.units (g : Good Tb w k X T) : X.A.units + 65 < cLine := by have := g.room.un; omega
theorem Good.blk (g : Good Tb w k X T) (s : Shared) (H : Hp) (scope : Scope) (C : Addr) (cl : List (Str × Addr)) (fp : List Addr) : Good Tb w k (X.blk s H scope (compEnvC scope cl C X.env) fp) (T.blk scope) :=
  ⟨g.hN, g.nd, by show relS scope X.env.scope = relS scope T.sc; rw [g.sc], g.calm, rfl, g.gd, g.room, g.fns, g.cst, g.blt⟩
theorem opOf_ok {o : Operator} {i : Op} (h : opOf o = some i) : o = opr i := by
  cases o <;> simp [opOf] at h <;> (subst h; rfl)
theorem cmOf_ok {o : CmpOp} {i : Cm} (h : cmOf o = some i) : o = cmo i := by
  cases o <;> simp [cmOf] at h <;> (subst h; rfl)
theorem biB_ok (g : Good Tb w k X T) {x : Str} {b : Bi} (h : biB.lookup x = some b) : x ∈ bltNames ∧ BiOk X b ∧ ∃ id, fvB b = .builtin id ∧ bootBuiltins x = some (.builtin id) := by
  unfold biB at h
  simp only [List.lookup] at h
  repeat (split at h; · rename_i c; cases h; rw [eq_of_beq c]; refine ⟨by decide +kernel, ?_, _, rfl, by decide +kernel⟩; first | exact bi_len | exact bi_abs | exact bi_max g.calm | exact bi_min g.calm | exact bi_sum g.calm | exact bi_all g.calm | exact bi_any g.calm | exact bi_divmod)
  cases h
theorem biT_ok (g : Good Tb w k X T) {x : Str} {b : Bi} (h : biT.lookup x = some b) : x ∈ bltNames ∧ BiOk X b ∧ ∃ id, fvB b = .type id ∧ bootBuiltins x = some (.type id) := by
  unfold biT at h
  simp only [List.lookup] at h
  repeat (split at h; · rename_i c; cases h; rw [eq_of_beq c]; refine ⟨by decide +kernel, ?_, _, rfl, by decide +kernel⟩; first | exact bi_int | exact bi_list | exact bi_tuple | exact bi_str)
  cases h
theorem tyT_ok {x : Str} {b : String} (h : tyT.lookup x = some b) : x ∈ bltNames ∧ bootBuiltins x = some (.type b) := by
  unfold tyT at h
  simp only [List.lookup] at h
  repeat (split at h; · rename_i c; cases h; rw [eq_of_beq c]; exact ⟨by decide +kernel, by decide +kernel⟩)
  cases h
end
end Ev

set_option Elab.async false
set_option linter.all false
set_option maxRecDepth 100000
set_option maxHeartbeats 4000000
namespace Ev
open PySem PySem.Spec PyProof.Rows L2

structure Snd (Tb : Nat → Option Fd) (w k n : Nat) : Prop where
  e : ∀ X T, Good Tb w k X T → ∀ e i, trE n T e = some i → PEv X (callF Tb w k) e i ∧ PTv X (callF Tb w k) e i
  b : ∀ X T, Good Tb w k X T → ∀ op vs i pos, trB n T op vs = some i → PEv X (callF Tb w k) (.BoolOp op vs pos) i ∧ PWv X (callF Tb w k) (.BoolOp op vs pos) i
  es : ∀ X T, Good Tb w k X T → ∀ es is, trEs n T es = some is → PAv X (callF Tb w k) es is ∧ (∀ e ∈ es, isStar e = false)
  o : ∀ X T, Good Tb w k X T → ∀ o i, trEo n T o = some i → PO X o (tOp_ X.K (evEo (callF Tb w k) i))
  ifs : ∀ X T, Good Tb w k X T → ∀ o i, trIfs n T o = some i → PTsv X (callF Tb w k) o i
  t : ∀ X T, Good Tb w k X T → ∀ e t, trT n T e = some t → PGv X (callF Tb w k) e t ∧ isStar e = false
  ts : ∀ X T, Good Tb w k X T → ∀ es ts, trTs n T es = some ts → PGsv X (callF Tb w k) es ts ∧ (∀ e ∈ es, isStar e = false) ∧ ts.len = es.length
  i : ∀ X T, Good Tb w k X T → ∀ tg e i, trI n T tg e = some i → PIv X (callF Tb w k) tg e i
  c : ∀ X T, Good Tb w k X T → ∀ elt tg iter ifs scope c, trC n T elt tg iter ifs scope = some c → LcOk X (callF Tb w k) elt tg iter ifs scope (ownOf T scope) c
  kws : ∀ X T, Good Tb w k X T → ∀ kws zs is pos, trKws n T kws = some (zs, is) → PK X kws (tEs X.K (evEs (callF Tb w k) is)) ∧ is.len = zs.length ∧ (backToKw pos (keywordEach kws X.env)).all (·.1.isSome) = true ∧ (backToKw pos (keywordEach kws X.env)).filterMap (·.1) = zs ∧ (backToKw pos (keywordEach kws X.env)).any (·.1.isNone) = false
  callk : ∀ X T, Good Tb w k X T → ∀ x kws i p pos, okB x = true → glB T x = true → trCallK n T x kws = some i → PEv X (callF Tb w k) (.Call (.Name x p) [] kws pos) i
  call : ∀ X T, Good Tb w k X T → ∀ x es i p pos, okB x = true → glB T x = true → trCall n T x es = some i → PEv X (callF Tb w k) (.Call (.Name x p) es [] pos) i
section
variable {Tb : Nat → Option Fd} {w k n : Nat} {X : Cx} {T : Tx}
theorem both {cf : CF} {e : Expr} {i : E} (h : PEv X cf e i) (he : ∀ whole, isTrue e X.env whole = (do let v ← whole; standAt e.pos; holding [v] (truthy v))) : PEv X cf e i ∧ PTv X cf e i := ⟨h, pt_plain h he⟩
theorem snd_e (S : Snd Tb w k n) (g : Good Tb w k X T) {e : Expr} {i : E} (h : trE (n + 1) T e = some i) : PEv X (callF Tb w k) e i ∧ PTv X (callF Tb w k) e i := by
  unfold trE at h
  split at h <;> try (have hn := Nat.succ.inj ‹n + 1 = Nat.succ _›; subst hn)
  · cases h
  -- a name
  · split at h
    · rename_i c
      obtain ⟨k1, k2, k3⟩ := okB_ok c
      split at h
      · rename_i v
        obtain ⟨j, hj, rfl⟩ := Option.map_eq_some_iff.mp h
        exact both (ev_var (g.slot hj) (g.vis v) k1 k2) fun _ => rfl
      · split at h
        · rename_i gl
          split at h
          · rename_i d hd
            cases h
            obtain ⟨v, u, hm, rv, hr⟩ := g.cst _ _ hd
            exact both (ev_lit (pe_glob (g.glob gl) hm rv k1) hr) fun _ => rfl
          · cases h
        · cases h
    · cases h
  · cases h
    exact both (ev_lit pe_int fun _ _ => rfl) fun _ => rfl
  · cases h
    exact both (ev_lit pe_bl fun _ _ => rfl) fun _ => rfl
  · cases h
    exact both (ev_lit pe_str fun _ _ => rfl) fun _ => rfl
  · cases h
    exact both (ev_lit pe_non fun _ _ => rfl) fun _ => rfl
  -- an operator
  · split at h
    · rename_i o' ia ib ho ha hb
      cases h
      rw [opOf_ok ho]
      exact both (ev_bin (o := o') (S.e X _ g _ _ ha).1 (S.e X _ g _ _ hb).1) fun _ => rfl
    · cases h
  · obtain ⟨ia, ha, rfl⟩ := Option.map_eq_some_iff.mp h
    exact both (ev_neg (S.e X _ g _ _ ha).1) fun _ => rfl
  · obtain ⟨ia, ha, rfl⟩ := Option.map_eq_some_iff.mp h
    obtain ⟨q1, q2⟩ := S.e X _ g _ _ ha
    exact ⟨ev_not q1, evt_not q2⟩
  · obtain ⟨q1, q2⟩ := S.b X _ g _ _ _ (by assumption) h
    exact ⟨q1, pt_of_pw q2⟩
  · split at h
    · rename_i o' ia ib ho ha hb
      split at h
      · cases h
      · rename_i c
        cases h
        rw [cmOf_ok ho]
        exact ⟨ev_cmp g.units (S.e X _ g _ _ ha).1 (S.e X _ g _ _ hb).1 (behind_no (by simpa using c)), evt_cmp g.units (S.e X _ g _ _ ha).1 (S.e X _ g _ _ hb).1 (behind_no (by simpa using c))⟩
    · cases h
  · split at h
    · rename_i o' o2' ia ib ic ho ho2 ha hb hc
      split at h
      · cases h
      · rename_i c
        cases h
        rw [cmOf_ok ho, cmOf_ok ho2]
        exact ⟨ev_cmp2 g.units (S.e X _ g _ _ ha).1 (S.e X _ g _ _ hb).1 (S.e X _ g _ _ hc).1 (behind_no (by simpa using c)), evt_cmp2 g.units (S.e X _ g _ _ ha).1 (S.e X _ g _ _ hb).1 (S.e X _ g _ _ hc).1 (behind_no (by simpa using c))⟩
    · cases h
  · split at h
    · rename_i ic ia ib hc ha hb
      cases h
      exact ⟨ev_ife (S.e X _ g _ _ hc).2 (S.e X _ g _ _ ha).1 (S.e X _ g _ _ hb).1, evt_ife (S.e X _ g _ _ hc).2 (S.e X _ g _ _ ha).2 (S.e X _ g _ _ hb).2⟩
    · cases h
  · obtain ⟨ia, ha, rfl⟩ := Option.map_eq_some_iff.mp h
    exact both (ev_tup (S.es X _ g _ _ ha).1) fun _ => rfl
  · obtain ⟨ia, ha, rfl⟩ := Option.map_eq_some_iff.mp h
    exact both (ev_lst (S.es X _ g _ _ ha).1) fun _ => rfl
  · split at h
    · rename_i ia il ih ha hl hh
      cases h
      exact both (ev_slc (S.e X _ g _ _ ha).1 (S.o X _ g _ _ hl) (S.o X _ g _ _ hh)) fun _ => rfl
    · cases h
  · obtain ⟨ia, ha, rfl⟩ := Option.map_eq_some_iff.mp h
    refine ⟨ev_rev (S.e X _ g _ _ ha).1, pt_plain (ev_rev (S.e X _ g _ _ ha).1) fun _ => rfl⟩
  · split at h
    · cases h
    · rename_i c
      split at h
      · rename_i ia ib ha hb
        cases h
        refine ⟨ev_idx (S.e X _ g _ _ ha).1 (S.e X _ g _ _ hb).1 (plain_ix (by simpa using c)), pt_plain (ev_idx (S.e X _ g _ _ ha).1 (S.e X _ g _ _ hb).1 (plain_ix (by simpa using c))) fun _ => rfl⟩
      · cases h
  · obtain ⟨ia, ha, rfl⟩ := Option.map_eq_some_iff.mp h
    exact ⟨ev_comp (S.c X _ g _ _ _ _ _ _ ha), pt_plain (ev_comp (S.c X _ g _ _ _ _ _ _ ha)) fun _ => rfl⟩
  · split at h
    · rename_i c
      simp only [Bool.and_eq_true] at c
      exact ⟨S.call X _ g _ _ _ _ _ c.1 c.2 h, pt_plain (S.call X _ g _ _ _ _ _ c.1 c.2 h) fun _ => rfl⟩
    · cases h
  · split at h
    · rename_i c
      simp only [Bool.and_eq_true] at c
      exact both (S.callk X _ g _ _ _ _ _ c.1 c.2 h) fun _ => rfl
    · cases h
  · cases h
theorem pw_one {a : Expr} {pos : Pos} {t : TT} : ∀ op : BoolOp, PT X a t → PW X (.BoolOp op [a] pos) t
  | .And, h => pw_and1 h
  | .Or, h => pw_or1 h
theorem snd_b (S : Snd Tb w k n) (g : Good Tb w k X T) {op : BoolOp} {vs : List Expr} {i : E} {pos : Pos} (h : trB (n + 1) T op vs = some i) : PEv X (callF Tb w k) (.BoolOp op vs pos) i ∧ PWv X (callF Tb w k) (.BoolOp op vs pos) i := by
  unfold trB at h
  split at h <;> try (have hn := Nat.succ.inj ‹n + 1 = Nat.succ _›; subst hn)
  · cases h
  · obtain ⟨q1, q2⟩ := S.e X _ g _ _ h
    exact ⟨ev_bool1 q1, pw_one _ q2⟩
  · split at h
    · rename_i ia ib ha hb
      cases h
      obtain ⟨q1, q2⟩ := S.e X _ g _ _ ha
      obtain ⟨q3, q4⟩ := S.b X _ g _ _ _ pos hb
      exact ⟨ev_and q1 q3, evw_and q2 q4⟩
    · cases h
  · split at h
    · rename_i ia ib ha hb
      cases h
      obtain ⟨q1, q2⟩ := S.e X _ g _ _ ha
      obtain ⟨q3, q4⟩ := S.b X _ g _ _ _ pos hb
      exact ⟨ev_or q1 q3, evw_or q2 q4⟩
    · cases h
  · cases h
theorem snd_es (S : Snd Tb w k n) (g : Good Tb w k X T) {es : List Expr} {is : Es} (h : trEs (n + 1) T es = some is) : PAv X (callF Tb w k) es is ∧ (∀ e ∈ es, isStar e = false) := by
  unfold trEs at h
  split at h <;> try (have hn := Nat.succ.inj ‹n + 1 = Nat.succ _›; subst hn)
  · cases h
  · cases h; exact ⟨ev_nil, by simp⟩
  · split at h
    · cases h
    · rename_i c
      split at h
      · rename_i i is hi his
        cases h
        obtain ⟨q1, q2⟩ := S.es X _ g _ _ his
        exact ⟨ev_cons (S.e X _ g _ _ hi).1 q1 (by simpa using c), fun e he => by
          rcases List.mem_cons.mp he with rfl | he
          · simpa using c
          · exact q2 e he⟩
      · cases h
theorem snd_o (S : Snd Tb w k n) (g : Good Tb w k X T) {o : Option Expr} {i : Eo} (h : trEo (n + 1) T o = some i) : PO X o (tOp_ X.K (evEo (callF Tb w k) i)) := by
  unfold trEo at h
  split at h <;> try (have hn := Nat.succ.inj ‹n + 1 = Nat.succ _›; subst hn)
  · cases h
  · cases h; exact evo_no
  · obtain ⟨ia, ha, rfl⟩ := Option.map_eq_some_iff.mp h
    exact evo_so (S.e X _ g _ _ ha).1
theorem snd_ifs (S : Snd Tb w k n) (g : Good Tb w k X T) {o : List Expr} {i : Eo} (h : trIfs (n + 1) T o = some i) : PTsv X (callF Tb w k) o i := by
  unfold trIfs at h
  split at h <;> try (have hn := Nat.succ.inj ‹n + 1 = Nat.succ _›; subst hn)
  · cases h
  · cases h; exact evts_nil
  · obtain ⟨ia, ha, rfl⟩ := Option.map_eq_some_iff.mp h
    exact evts_one (S.e X _ g _ _ ha).2
  · cases h
theorem snd_t (S : Snd Tb w k n) (g : Good Tb w k X T) {e : Expr} {t : Ev.T} (h : trT (n + 1) T e = some t) : PGv X (callF Tb w k) e t ∧ isStar e = false := by
  unfold trT at h
  split at h <;> try (have hn := Nat.succ.inj ‹n + 1 = Nat.succ _›; subst hn)
  · cases h
  · split at h
    · rename_i c
      obtain ⟨j, hj, rfl⟩ := Option.map_eq_some_iff.mp h
      obtain ⟨q1, q2⟩ := g.loc c
      exact ⟨evg_nm g.nd (g.slot hj) q1 q2, rfl⟩
    · cases h
  · obtain ⟨ia, ha, rfl⟩ := Option.map_eq_some_iff.mp h
    obtain ⟨q1, q2, q3⟩ := S.ts X _ g _ _ ha
    exact ⟨evg_tp g.calm q1 q2 q3, rfl⟩
  · split at h
    · cases h
    · rename_i c
      split at h
      · rename_i ia ib ha hb
        cases h
        exact ⟨evg_sub (S.e X _ g _ _ ha).1 (S.e X _ g _ _ hb).1 (sub_asg (by simpa using c)), rfl⟩
      · cases h
  · cases h
theorem snd_ts (S : Snd Tb w k n) (g : Good Tb w k X T) {es : List Expr} {ts : Ts} (h : trTs (n + 1) T es = some ts) : PGsv X (callF Tb w k) es ts ∧ (∀ e ∈ es, isStar e = false) ∧ ts.len = es.length := by
  unfold trTs at h
  split at h <;> try (have hn := Nat.succ.inj ‹n + 1 = Nat.succ _›; subst hn)
  · cases h
  · cases h; exact ⟨evgs_nil, by simp, rfl⟩
  · split at h
    · rename_i i is hi his
      cases h
      obtain ⟨q1, q2⟩ := S.t X _ g _ _ hi
      obtain ⟨q3, q4, q5⟩ := S.ts X _ g _ _ his
      exact ⟨evgs_cons q1 q3 q2, fun e he => by
        rcases List.mem_cons.mp he with rfl | he
        · exact q2
        · exact q4 e he, by rw [Ts.len, q5, List.length_cons]⟩
    · cases h
theorem trEs1 {n : Nat} {T : Tx} {a : Expr} {is : Es} (h : trEs n T [a] = some is) : ∃ m i, is = .cons i .nil ∧ n = m + 1 ∧ trE m T a = some i ∧ isStar a = false := by
  cases n with
  | zero => simp [trEs] at h
  | succ m =>
    simp only [trEs] at h
    split at h
    · cases h
    · rename_i c
      split at h
      · rename_i i is hi his
        cases h
        cases m with
        | zero => simp [trEs] at his
        | succ l =>
          simp only [trEs] at his
          cases his
          exact ⟨_, i, rfl, rfl, hi, by simpa using c⟩
      · cases h
theorem trEs2 {n : Nat} {T : Tx} {a : Expr} {es : List Expr} {is : Es} (h : trEs n T (a :: es) = some is) : ∃ m i r, is = .cons i r ∧ n = m + 1 ∧ trE m T a = some i ∧ isStar a = false ∧ trEs m T es = some r := by
  cases n with
  | zero => simp [trEs] at h
  | succ m =>
    simp only [trEs] at h
    split at h
    · cases h
    · rename_i c
      split at h
      · rename_i i is hi his
        cases h
        exact ⟨_, i, is, rfl, rfl, hi, by simpa using c, his⟩
      · cases h
theorem ev_enm' {cf : CF} {tg a : Expr} {ia : E} {pos p : Pos} (ht : isTupE tg = true) (hg : Gl X "enumerate") (hm : X.mg "enumerate" = none) (ha : PEv X cf a ia) (hs : isStar a = false) : PIv X cf tg (.Call (.Name "enumerate" p) [a] [] pos) (.enm ia) := by
  cases tg <;> first | exact ev_enm hg hm ha hs | cases ht
theorem ev_zip' {cf : CF} {tg a b : Expr} {ia ib : E} {pos p : Pos} (ht : isTupE tg = true) (hg : Gl X "zip") (hm : X.mg "zip" = none) (ha : PEv X cf a ia) (hb : PEv X cf b ib) (hs : isStar a = false) (hs2 : isStar b = false) : PIv X cf tg (.Call (.Name "zip" p) [a, b] [] pos) (.zip ia ib) := by
  cases tg <;> first | exact ev_zip hg hm ha hb hs hs2 | cases ht
theorem snd_i (SS : ∀ m ≤ n, Snd Tb w k m) (g : Good Tb w k X T) {tg e : Expr} {i : It} (h : trI (n + 1) T tg e = some i) : PIv X (callF Tb w k) tg e i := by
  have S := SS n (Nat.le_refl n)
  unfold trI at h
  split at h <;> try (have hn := Nat.succ.inj ‹n + 1 = Nat.succ _›; subst hn)
  · cases h
  · split at h
    · rename_i c
      simp only [Bool.and_eq_true, decide_eq_true_eq] at c
      obtain ⟨c1, rfl⟩ := c
      have m := g.blt "range" (by decide +kernel)
      have gg := g.glob c1
      split at h
      · rename_i a is hs
        cases h
        obtain ⟨m1, i1, rfl, rfl, q, st⟩ := trEs1 hs
        exact ev_rng1 gg m ((SS m1 (by omega)).e X _ g _ _ q).1 st
      · rename_i a b is hs
        cases h
        obtain ⟨m1, i1, r1, rfl, rfl, q, st, hs⟩ := trEs2 hs
        obtain ⟨m2, i2, rfl, rfl, q2, st2⟩ := trEs1 hs
        exact ev_rng2 gg m ((SS (m2 + 1) (by omega)).e X _ g _ _ q).1 ((SS m2 (by omega)).e X _ g _ _ q2).1 st st2
      · rename_i a b c is hs
        cases h
        obtain ⟨m1, i1, r1, rfl, rfl, q, st, hs⟩ := trEs2 hs
        obtain ⟨m2, i2, r2, rfl, rfl, q2, st2, hs⟩ := trEs2 hs
        obtain ⟨m3, i3, rfl, rfl, q3, st3⟩ := trEs1 hs
        exact ev_rng3 gg m ((SS (m3 + 1 + 1) (by omega)).e X _ g _ _ q).1 ((SS (m3 + 1) (by omega)).e X _ g _ _ q2).1 ((SS m3 (by omega)).e X _ g _ _ q3).1 st st2 st3
      · cases h
    · split at h
      · rename_i c
        simp only [Bool.and_eq_true, decide_eq_true_eq] at c
        obtain ⟨⟨c1, c2⟩, rfl⟩ := c
        have m := g.blt "enumerate" (by decide +kernel)
        split at h
        · split at h
          · cases h
          · rename_i st
            obtain ⟨ia, ha, rfl⟩ := Option.map_eq_some_iff.mp h
            exact ev_enm' c2 (g.glob c1) m (S.e X _ g _ _ ha).1 (by simpa using st)
        · cases h
      · split at h
        · rename_i c
          simp only [Bool.and_eq_true, decide_eq_true_eq] at c
          obtain ⟨⟨c1, c2⟩, rfl⟩ := c
          have m := g.blt "zip" (by decide +kernel)
          split at h
          · split at h
            · cases h
            · rename_i st
              simp only [Bool.or_eq_true, not_or, Bool.not_eq_true] at st
              split at h
              · rename_i ia ib ha hb
                cases h
                exact ev_zip' c2 (g.glob c1) m (S.e X _ g _ _ ha).1 (S.e X _ g _ _ hb).1 st.1 st.2
              · cases h
          · cases h
        · obtain ⟨ia, ha, rfl⟩ := Option.map_eq_some_iff.mp h
          exact ev_seq (S.e X _ g _ _ ha).1
  · obtain ⟨ia, ha, rfl⟩ := Option.map_eq_some_iff.mp h
    exact ev_seq (S.e X _ g _ _ ha).1
theorem snd_c (S : Snd Tb w k n) (g : Good Tb w k X T) {elt tg iter : Expr} {ifs : List Expr} {scope : Scope} {c : Cp} (h : trC (n + 1) T elt tg iter ifs scope = some c) : LcOk X (callF Tb w k) elt tg iter ifs scope (ownOf T scope) c := by
  unfold trC at h
  split at h
  · rename_i cc
    simp only [Bool.and_eq_true, Bool.not_eq_true'] at cc
    split at h
    · rename_i ie it ii iff he ht hi hf
      split at h
      · rename_i ho
        cases h
        refine ⟨g.calm, g.nd, blkOk_by (by rw [g.hN, g.sc]; exact cc.1), ⟨ie, it, ii, iff, rfl, ho, S.i X _ g _ _ _ hi, fun s H C cl fp => (S.t _ _ (g.blk s H scope C cl fp) _ _ ht).1, fun s H C cl fp => S.ifs _ _ (g.blk s H scope C cl fp) _ _ hf, fun s H C cl fp => (S.e _ _ (g.blk s H scope C cl fp) _ _ he).1⟩, folded_no cc.2⟩
      · cases h
    · cases h
  · cases h
theorem snd_kws (S : Snd Tb w k n) (g : Good Tb w k X T) {kws : List Keyword} {zs : List Str} {is : Es} {pos : Pos} (h : trKws (n + 1) T kws = some (zs, is)) :
    PK X kws (tEs X.K (evEs (callF Tb w k) is)) ∧ is.len = zs.length ∧ (backToKw pos (keywordEach kws X.env)).all (·.1.isSome) = true ∧ (backToKw pos (keywordEach kws X.env)).filterMap (·.1) = zs ∧ (backToKw pos (keywordEach kws X.env)).any (·.1.isNone) = false := by
  unfold trKws at h
  split at h <;> try (have hn := Nat.succ.inj ‹n + 1 = Nat.succ _›; subst hn)
  · cases h
  · cases h
    exact ⟨evk_nil, rfl, rfl, rfl, rfl⟩
  · split at h
    · rename_i i zs' is' hi his
      cases h
      obtain ⟨q1, q2, q3, q4, q5⟩ := S.kws X _ g _ _ _ pos his
      refine ⟨evk_cons (S.e X _ g _ _ hi).1 q1, by rw [Es.len, q2, List.length_cons], ?_, ?_, ?_⟩
      · show (true && (backToKw pos (keywordEach _ X.env)).all (·.1.isSome)) = true
        rw [q3]; rfl
      · show _ :: (backToKw pos (keywordEach _ X.env)).filterMap (·.1) = _
        rw [q4]
      · show (false || (backToKw pos (keywordEach _ X.env)).any (·.1.isNone)) = false
        rw [q5]; rfl
    · cases h
  · cases h
theorem snd_callk (S : Snd Tb w k n) (g : Good Tb w k X T) {x : Str} {kws : List Keyword} {i : E} {p pos : Pos} (hx : okB x = true) (hg : glB T x = true) (h : trCallK (n + 1) T x kws = some i) : PEv X (callF Tb w k) (.Call (.Name x p) [] kws pos) i := by
  obtain ⟨k1, k2, k3⟩ := okB_ok hx
  unfold trCallK at h
  split at h
  · rename_i j zs is hj hz
    split at h
    · rename_i pm hp
      cases h
      obtain ⟨fA, fdt, ps, fd, q1, q2, F, q3, q4, q5, q6⟩ := g.fns _ _ hj
      obtain ⟨a1, a2, a3, a4, a5⟩ := S.kws X _ g _ _ _ pos hz
      exact ev_callk q1 q2 F g.gd g.room (g.glob hg) q3 q4 (q6 _ _ hp) a1 k1 a2 a3 a4 a5
    · cases h
  · cases h
theorem no_any {es : List Expr} {e : Expr} {pos : Pos} (h : ∀ x ∈ e :: es, isStar x = false) : (backTo pos (starEach es X.env)).any (·.1) = false := any_back fun x hx => h x (List.mem_cons_of_mem _ hx)
theorem snd_call (S : Snd Tb w k n) (g : Good Tb w k X T) {x : Str} {es : List Expr} {i : E} {p pos : Pos} (hx : okB x = true) (hg : glB T x = true) (h : trCall (n + 1) T x es = some i) : PEv X (callF Tb w k) (.Call (.Name x p) es [] pos) i := by
  obtain ⟨k1, k2, k3⟩ := okB_ok hx
  have gg := g.glob hg
  unfold trCall at h
  split at h
  · rename_i j hj
    obtain ⟨fA, fdt, ps, fd, q1, q2, F, q3, q4, q5, _⟩ := g.fns _ _ hj
    split at h
    · cases h
    · obtain ⟨is, his, rfl⟩ := Option.map_eq_some_iff.mp h
      obtain ⟨a1, a2⟩ := S.es X _ g _ _ his
      exact ev_call q1 q2 F g.gd g.room gg q3 q4 q5 a1 k1 (a2 _ List.mem_cons_self) (no_any a2)
  · cases h
  · split at h
    · rename_i c
      subst c
      have m := g.blt "isinstance" (by decide +kernel)
      split at h
      · split at h
        · rename_i c
          simp only [Bool.and_eq_true, Bool.not_eq_true'] at c
          obtain ⟨⟨c1, c2⟩, c3⟩ := c
          split at h
          · rename_i t ia ht ha
            cases h
            obtain ⟨k4, k5, k6⟩ := okB_ok c1
            obtain ⟨t1, t2⟩ := tyT_ok ht
            exact ev_isi (S.e X _ g _ _ ha).1 gg m (g.glob c2) (g.blt _ t1) t2 k6 k4 c3
          · cases h
        · cases h
      · cases h
    · split at h
      · rename_i c
        subst c
        have m := g.blt "repr" (by decide +kernel)
        split at h
        · split at h
          · cases h
          · rename_i st
            obtain ⟨ia, ha, rfl⟩ := Option.map_eq_some_iff.mp h
            rw [Bool.not_eq_true] at st
            exact ev_biB (bi_repr g.gd g.room) rfl gg m (by decide +kernel) (ev_cons (S.e X _ g _ _ ha).1 ev_nil st) k3 k1 st rfl
        · cases h
      · split at h
        · rename_i r hz
          cases h
          split at hz
          · rename_i c
            have c := of_decide_eq_true c
            subst c
            split at hz
            · split at hz
              · rename_i c
                simp only [Bool.and_eq_true, Bool.not_eq_true', decide_eq_true_eq] at c
                obtain ⟨⟨⟨c1, rfl⟩, c3⟩, c4⟩ := c
                split at hz
                · rename_i ia ib ha hb
                  cases hz
                  exact ev_lzip g.calm gg (g.blt _ (by decide +kernel)) (g.glob c1) (g.blt _ (by decide +kernel)) (S.e X _ g _ _ ha).1 (S.e X _ g _ _ hb).1 c3 c4
                · cases hz
              · cases hz
            · cases hz
          · cases hz
        · split at h
          · rename_i hb
            obtain ⟨c, hc, rfl⟩ := Option.map_eq_some_iff.mp h
            obtain ⟨b1, b2, id, b3, b4⟩ := biB_ok g ‹biB.lookup _ = some _›
            exact ev_bqB (S.c X _ g _ _ _ _ _ _ hc) b2 b3 gg (g.blt _ b1) b4 k3 k1
          · rename_i hb
            obtain ⟨c, hc, rfl⟩ := Option.map_eq_some_iff.mp h
            obtain ⟨b1, b2, id, b3, b4⟩ := biT_ok g ‹biT.lookup _ = some _›
            exact ev_bqT (S.c X _ g _ _ _ _ _ _ hc) b2 b3 gg (g.blt _ b1) b4 k3 k1
          · rename_i hb
            obtain ⟨is, his, rfl⟩ := Option.map_eq_some_iff.mp h
            obtain ⟨a1, a2⟩ := S.es X _ g _ _ his
            obtain ⟨b1, b2, id, b3, b4⟩ := biB_ok g ‹biB.lookup _ = some _›
            exact ev_biB b2 b3 gg (g.blt _ b1) b4 a1 k3 k1 (a2 _ List.mem_cons_self) (no_any a2)
          · rename_i hb
            obtain ⟨is, his, rfl⟩ := Option.map_eq_some_iff.mp h
            obtain ⟨a1, a2⟩ := S.es X _ g _ _ his
            obtain ⟨b1, b2, id, b3, b4⟩ := biT_ok g ‹biT.lookup _ = some _›
            exact ev_biT b2 b3 gg (g.blt _ b1) b4 a1 k3 k1 (a2 _ List.mem_cons_self) (no_any a2)
          · cases h
end
theorem snd {Tb : Nat → Option Fd} {w k : Nat} : ∀ n, Snd Tb w k n := by
  intro n
  induction n using Nat.strongRecOn with
  | _ n ih =>
    cases n with
    | zero =>
      constructor <;> intros <;> rename_i h <;> first | (exact absurd h (by simp [trE])) | (exact absurd h (by simp [trB])) | (exact absurd h (by simp [trEs])) | (exact absurd h (by simp [trEo])) | (exact absurd h (by simp [trIfs])) | (exact absurd h (by simp [trT])) | (exact absurd h (by simp [trTs])) | (exact absurd h (by simp [trI])) | (exact absurd h (by simp [trC])) | (exact absurd h (by simp [trKws])) | (exact absurd h (by simp [trCallK])) | (exact absurd h (by simp [trCall]))
    | succ n =>
      have S := ih n (Nat.lt_succ_self n)
      exact ⟨fun X T g e i h => snd_e S g h, fun X T g op vs i pos h => snd_b S g h, fun X T g es is h => snd_es S g h, fun X T g o i h => snd_o S g h, fun X T g o i h => snd_ifs S g h, fun X T g e t h => snd_t S g h, fun X T g es ts h => snd_ts S g h,
        fun X T g tg e i h => snd_i (fun m hm => ih m (by omega)) g h, fun X T g elt tg iter ifs scope c h => snd_c S g h, fun X T g kws zs is pos h => snd_kws S g h, fun X T g x kws i p pos h1 h2 h3 => snd_callk S g h1 h2 h3, fun X T g x es i p pos h1 h2 h3 => snd_call S g h1 h2 h3⟩
end Ev

set_option Elab.async false
set_option linter.all false
set_option maxRecDepth 100000
set_option maxHeartbeats 4000000
namespace Ev
open PySem PySem.Spec PyProof.Rows L2

def lclB (T : Tx) (x : Str) : Bool := decide (T.sc.names.lookup x = some .local)
/-- y = [..] on one line -/
def swB (T : Tx) (scope : Scope) (y : Str) (py p : Pos) : Bool := T.sc.names.lookup y == some .local && py.line == p.line && !(scope.names.any fun (n, k) => n == y && (k == .local || k == .cell))
def augOf : Operator → Option Op
  | .Add => some .add | .Sub => some .sub | _ => none
/-- a, b = c, d stored from the right -/
def trPar (n : Nat) (T : Tx) (names : List Str) (ts vs : List Expr) : Option S :=
  match ts, vs with
  | [.Name x _, .Name y _], [a, b] => if names = [x, y] then (match slot T x, slot T y, trE n T a, trE n T b with
    | some i, some j, some ia, some ib => if i ≠ j && lclB T x && lclB T y && !isStar a && !isStar b then some (.par [i, j] (.cons ia (.cons ib .nil))) else none
    | _, _, _, _ => none) else none
  | [.Name x _, .Name y _, .Name z _], [a, b, c] => if names = [x, y, z] then (match slot T x, slot T y, slot T z, trE n T a, trE n T b, trE n T c with
    | some i, some j, some l, some ia, some ib, some ic => if i ≠ j && i ≠ l && j ≠ l && lclB T x && lclB T y && lclB T z && !isStar a && !isStar b && !isStar c then some (.par [i, j, l] (.cons ia (.cons ib (.cons ic .nil)))) else none
    | _, _, _, _, _, _ => none) else none
  | _, _ => none
mutual
def trS : Nat → Tx → Stmt → Option S
  | 0, _, _ => none
  | n + 1, T, .Expr (.Constant (.str _) _ _) _ => some .pass
  | n + 1, T, .Expr (.Call (.Attribute a m apos) [e] [] cpos) _ => if decide (m = ("append" : Str)) && (apos.endLine == cpos.line) && !isCall a && !isStar e then (match trE n T a, trE n T e with
      | some ia, some ie => some (.app ia ie)
      | _, _ => none) else none
  | n + 1, T, .Return none _ => some .retn
  | n + 1, T, .Return (some e) _ => (trE n T e).map .ret
  | n + 1, T, .Pass _ => some .pass
  | n + 1, T, .Break _ => some .brk
  | n + 1, T, .If c a b _ => match trE n T c, trSs n T a, trSs n T b with
    | some ic, some ia, some ib => some (.ite ic ia ib)
    | _, _, _ => none
  | n + 1, T, .While c b [] _ => match trE n T c, trSs n T b with
    | some ic, some ib => some (.whl ic ib)
    | _, _ => none
  | n + 1, T, .For tg iter b [] _ => if isSet iter then none else (match trT n T tg, trI n T tg iter, trSs n T b with
    | some it, some ii, some ib => some (.loop it ii ib)
    | _, _, _ => none)
  | n + 1, T, .AugAssign (.Name x _) op e _ => if locB T x then (match augOf op, slot T x, trE n T e with
    | some o, some i, some ie => some (.aug o i ie)
    | _, _, _ => none) else none
  | n + 1, T, .AugAssign (.Subscript a b _) op e _ => if isSlice b then none else (match augOf op, trE n T a, trE n T b, trE n T e with
    | some o, some ia, some ib, some ie => some (.augs o ia ib ie)
    | _, _, _, _ => none)
  | n + 1, T, .Assign [.Name y py] (.ListComp elt [⟨tg, iter, ifs, 0⟩] scope p) _ => if decide (T.sc.kind = .function) && locB T y then (match slot T y, trC n T elt tg iter ifs scope with
    | some i, some c => some (.asg (.nm i) (.comp c))
    | _, _ => none) else none
  | n + 1, T, .Assign [.Name y _] e _ => if locB T y && !isComp e then (match slot T y, trE n T e with
    | some i, some ie => some (.asg (.nm i) ie)
    | _, _ => none) else none
  | n + 1, T, .Assign [.Tuple ts k p] (.Tuple vs k2 p2) _ => if decide (T.sc.kind = .function) then (match swOf T.sc ts vs with
    | some none => (match trT n T (.Tuple ts k p), trE n T (.Tuple vs k2 p2) with
      | some t, some i => some (.asg t i)
      | _, _ => none)
    | some (some names) => trPar n T names ts vs
    | none => none) else none
  | n + 1, T, .Assign [tg] e _ => if isName tg || isLstE tg || (isTupE tg && isTupE e) then none else (match trT n T tg, trE n T e with
    | some t, some i => some (.asg t i)
    | _, _ => none)
  | n + 1, T, _ => none
def trSs : Nat → Tx → List Stmt → Option Ss
  | 0, _, _ => none
  | n + 1, T, [] => some .nil
  | n + 1, T, s :: r => match trSs n T r with
    | some j => some (.cons ((trS n T s).getD .nev) j)
    | none => none
end
theorem augOf_ok {X : Cx} {o : Operator} {i : Op} (h : augOf o = some i) : o = opr i ∧ AugOk X i := by
  cases o <;> simp [augOf] at h
  · subst h; exact ⟨rfl, aug_add⟩
  · subst h; exact ⟨rfl, aug_sub⟩
structure SndS (Tb : Nat → Option Fd) (w k n : Nat) : Prop where
  s : ∀ X T, Good Tb w k X T → PassesOwn (model X.prog X.w) X.A X.env X.xe → ∀ st i, trS n T st = some i → PSv X (callF Tb w k) w st i
  ss : ∀ X T, Good Tb w k X T → PassesOwn (model X.prog X.w) X.A X.env X.xe → ∀ st i, trSs n T st = some i → PSsv X (callF Tb w k) w st i
section
variable {Tb : Nat → Option Fd} {w k n : Nat} {X : Cx} {T : Tx}
theorem Good.lcl (g : Good Tb w k X T) {x : Str} (h : lclB T x = true) : X.env.scope.names.lookup x = some .local := by rw [g.sc]; exact of_decide_eq_true h
theorem snd_par (g : Good Tb w k X T) {ts vs : List Expr} {names : List Str} {i : S} {k1 k2 : Nat} {p1 p2 pos : Pos} (hk : T.sc.kind = .function) (hw : swOf T.sc ts vs = some (some names)) (h : trPar n T names ts vs = some i) : PSv X (callF Tb w k) w (.Assign [.Tuple ts k1 p1] (.Tuple vs k2 p2) pos) i := by
  have hs := swOf_ok (env := X.env) (k1 := k1) (k2 := k2) (p1 := p1) (p2 := p2) g.sc hk hw
  unfold trPar at h
  split at h
  · split at h
    · rename_i c
      subst c
      split at h
      · rename_i i j ia ib h1 h2 h3 h4
        split at h
        · rename_i c
          simp only [Bool.and_eq_true, Bool.not_eq_true', decide_eq_true_eq] at c
          obtain ⟨⟨⟨⟨c1, c2⟩, c3⟩, c4⟩, c5⟩ := c
          cases h
          exact evs_par2 g.calm g.nd (g.slot h1) (g.slot h2) (by simpa using c1) (g.lcl c2) (g.lcl c3) ((snd n).e X T g _ _ h3).1 ((snd n).e X T g _ _ h4).1 c4 c5 hs (sws_other rfl)
        · cases h
      · cases h
    · cases h
  · split at h
    · rename_i c
      subst c
      split at h
      · rename_i i j l ia ib ic h1 h2 h3 h4 h5 h6
        split at h
        · rename_i c
          simp only [Bool.and_eq_true, Bool.not_eq_true', decide_eq_true_eq] at c
          obtain ⟨⟨⟨⟨⟨⟨⟨⟨c1, c2⟩, c3⟩, c4⟩, c5⟩, c6⟩, c7⟩, c8⟩, c9⟩ := c
          cases h
          exact evs_par3 g.calm g.nd (g.slot h1) (g.slot h2) (g.slot h3) (by simpa using c1) (by simpa using c2) (by simpa using c3) (g.lcl c4) (g.lcl c5) (g.lcl c6) ((snd n).e X T g _ _ h4).1 ((snd n).e X T g _ _ h5).1 ((snd n).e X T g _ _ h6).1 c7 c8 c9 hs (sws_other rfl)
        · cases h
      · cases h
    · cases h
  · cases h
theorem set_lc {elt tg iter : Expr} {ifs : List Expr} {scope : Scope} {own : List (Str × Nat)} {c : Cp} {i : Nat} {y : Str} {py pos spos : Pos} {b : Bool} (L : LcOk X (callF Tb w k) elt tg iter ifs scope own c) (hN : X.N.Nodup) (hy : X.N[i]? = some y) (hx : Loc X.env.scope y) (hf : X.fn y = true ∨ X.env.scope.names.lookup y = some .local)
    (hw : swapsWith (.ListComp elt [⟨tg, iter, ifs, 0⟩] scope pos) (some (.Name y py)) spos.line X.env = pure b) (hl : b = true → X.env.scope.names.lookup y = some .local) : PSv X (callF Tb w k) w (.Assign [.Name y py] (.ListComp elt [⟨tg, iter, ifs, 0⟩] scope pos) spos) (.asg (.nm i) (.comp c)) := by
  cases b with
  | true => exact evs_setLc L hy (hl rfl) hw
  | false => exact evs_set hN hy hx (ev_comp L) hw hf
theorem snd_s (S : SndS Tb w k n) (g : Good Tb w k X T) (hp : PassesOwn (model X.prog X.w) X.A X.env X.xe) {st : Stmt} {i : Ev.S} (h : trS (n + 1) T st = some i) : PSv X (callF Tb w k) w st i := by
  have E := snd (Tb := Tb) (w := w) (k := k) n
  unfold trS at h
  split at h <;> try (have hn := Nat.succ.inj ‹n + 1 = Nat.succ _›; subst hn)
  · cases h
  · cases h; exact evs_doc
  · split at h
    · rename_i c
      simp only [Bool.and_eq_true, Bool.not_eq_true', decide_eq_true_eq] at c
      obtain ⟨⟨⟨rfl, c2⟩, c3⟩, c4⟩ := c
      split at h
      · rename_i ia ie ha he
        cases h
        exact evs_app (E.e X _ g _ _ ha).1 (E.e X _ g _ _ he).1 c4 (base_no c3) c2
      · cases h
    · cases h
  · cases h; exact evs_retn
  · obtain ⟨ia, ha, rfl⟩ := Option.map_eq_some_iff.mp h
    exact evs_ret (E.e X _ g _ _ ha).1
  · cases h; exact evs_pass
  · cases h; exact evs_brk
  · split at h
    · rename_i ic ia ib hc ha hb
      cases h
      exact evs_ite (E.e X _ g _ _ hc).2 (S.ss X _ g hp _ _ ha) (S.ss X _ g hp _ _ hb)
    · cases h
  · split at h
    · rename_i ic ib hc hb
      cases h
      exact evs_whl hp (E.e X _ g _ _ hc).2 (S.ss X _ g hp _ _ hb)
    · cases h
  · split at h
    · cases h
    · rename_i c
      split at h
      · rename_i it ii ib ht hi hb
        cases h
        exact evs_for hp g.calm (E.i X _ g _ _ _ hi) (E.t X _ g _ _ ht).1 (S.ss X _ g hp _ _ hb) (folded_no (by simpa using c))
      · cases h
  · split at h
    · rename_i c
      obtain ⟨q1, q2⟩ := g.loc c
      split at h
      · rename_i o i ie ho hi he
        cases h
        obtain ⟨rfl, q3⟩ := augOf_ok (X := X) ho
        exact evs_aug q3 g.nd (g.slot hi) q1 (E.e X _ g _ _ he).1 q2
      · cases h
    · cases h
  · split at h
    · cases h
    · rename_i c
      split at h
      · rename_i o ia ib ie ho ha hb he
        cases h
        obtain ⟨rfl, q3⟩ := augOf_ok (X := X) ho
        exact evs_augs q3 (E.e X _ g _ _ ha).1 (E.e X _ g _ _ hb).1 (E.e X _ g _ _ he).1 (aug_st (by simpa using c))
      · cases h
  · split at h
    · rename_i c
      simp only [Bool.and_eq_true, decide_eq_true_eq] at c
      obtain ⟨q1, q2⟩ := g.loc c.2
      split at h
      · rename_i i c' hi hc
        cases h
        have L := E.c X _ g _ _ _ _ _ _ hc
        have hw := fun elt gs scope pos py y l => sw_comp (env := X.env) (elt := elt) (gs := gs) (scope := scope) (pos := pos) (py := py) (y := y) (l := l) g.sc c.1
        refine set_lc L g.nd (g.slot hi) q1 q2 (hw _ _ _ _ _ _ _) fun z => ?_
        simp only [Bool.and_eq_true, beq_iff_eq] at z
        rw [g.sc]
        exact z.1.1
      · cases h
    · cases h
  · split at h
    · rename_i c
      simp only [Bool.and_eq_true, Bool.not_eq_true'] at c
      obtain ⟨q1, q2⟩ := g.loc c.1
      split at h
      · rename_i i ie hi he
        cases h
        exact evs_set g.nd (g.slot hi) q1 (E.e X _ g _ _ he).1 (sw_noComp c.2) q2
      · cases h
    · cases h
  · split at h
    · rename_i c
      have c := of_decide_eq_true c
      split at h
      · rename_i hw
        split at h
        · rename_i t i ht hi
          cases h
          exact evs_asg (E.e X _ g _ _ hi).1 (E.t X _ g _ _ ht).1 rfl (sws_other rfl) (swOf_ok g.sc c hw)
        · cases h
      · rename_i names hw
        exact snd_par g c hw h
      · cases h
    · cases h
  · split at h
    · cases h
    · rename_i c
      simp only [Bool.or_eq_true, not_or, Bool.not_eq_true] at c
      split at h
      · rename_i t i ht hi
        cases h
        obtain ⟨q1, q2⟩ := E.t X _ g _ _ ht
        exact evs_asg (E.e X _ g _ _ hi).1 q1 q2 (sws_other c.1.1) (sw_other (by rw [c.1.2, c.2]; rfl))
      · cases h
  · cases h
theorem snd_ss (S : SndS Tb w k n) (g : Good Tb w k X T) (hp : PassesOwn (model X.prog X.w) X.A X.env X.xe) {st : List Stmt} {i : Ss} (h : trSs (n + 1) T st = some i) : PSsv X (callF Tb w k) w st i := by
  unfold trSs at h
  split at h <;> try (have hn := Nat.succ.inj ‹n + 1 = Nat.succ _›; subst hn)
  · cases h
  · cases h; exact evss_nil
  · split at h
    · rename_i j hj
      cases h
      refine evss_cons ?_ (S.ss X _ g hp _ _ hj)
      cases e : trS n _ _ with
      | some i => exact S.s X _ g hp _ _ e
      | none => exact evs_nev
    · cases h
end
theorem sndS {Tb : Nat → Option Fd} {w k : Nat} : ∀ n, SndS Tb w k n
  | 0 => ⟨fun X T g hp st i h => absurd h (by simp [trS]), fun X T g hp st i h => absurd h (by simp [trSs])⟩
  | n + 1 => ⟨fun X T g hp st i h => snd_s (sndS n) g hp h, fun X T g hp st i h => snd_ss (sndS n) g hp h⟩
end Ev

set_option Elab.async false
set_option linter.all false
set_option maxRecDepth 100000
set_option maxHeartbeats 4000000
namespace Ev
open PySem PySem.Spec PyProof.Rows L2

/-- a def of the program -/
structure FnE where
  st : Stmt
  name : Str
  ps : List Str
  N : List Str
  fd : Fd
def glFrom : Nat → List FnE → List (Str × D) → List (Str × Gw)
  | _, [], cs => cs.map fun p => (p.1, .cst p.2)
  | i, e :: r, cs => (e.name, .fn i) :: glFrom (i + 1) r cs
def tbOf (tb : List FnE) : Nat → Option Fd := fun i => (tb[i]?).map (·.fd)
/-- what is looked at once -/
def FnE.chk (gl : List (Str × Gw)) (kw : List ((Str × List Str) × List Nat)) (e : FnE) : Prop :=
  C8.scC e.N e.ps (defScope e.st) = true ∧ trSs 80 ⟨e.N, defScope e.st, fun _ => true, gl, kw⟩ (defBody e.st) = some e.fd.body ∧ e.ps.length = e.fd.np ∧ e.N.length = e.fd.nl
def FnE.bnd (e : FnE) : Prop := ∀ (kV doc pm : Value) (an : Option Addr) (cdv ct : Value) (us : List Value), us.length = e.ps.length → bindArgs (PySem.W.fnOf e.name e.name (defArgs e.st) (defBody e.st) (defScope e.st) .none kV doc pm an cdv ct) ⟨us, []⟩ = pure (e.ps.zip us)
def FnE.bndk (kw : List ((Str × List Str) × List Nat)) (e : FnE) : Prop := ∀ ks pm, kw.lookup (e.name, ks) = some pm → ∀ (kV doc pm' : Value) (an : Option Addr) (cdv ct : Value) (ws : List Value), ws.length = ks.length →
  bindArgs (PySem.W.fnOf e.name e.name (defArgs e.st) (defBody e.st) (defScope e.st) .none kV doc pm' an cdv ct) ⟨[], ks.zip ws⟩ = pure (e.ps.zip (pm.filterMap fun i => ws[i]?))
theorem gl_fn {x : Str} {i : Nat} : ∀ (j : Nat) (tb : List FnE) (cs : List (Str × D)), (glFrom j tb cs).lookup x = some (.fn i) → ∃ e, tb[i - j]? = some e ∧ j ≤ i ∧ e.name = x
  | j, [], cs, h => by
    have := PySem.mem_of_lookup h
    simp [glFrom] at this
  | j, e :: r, cs, h => by
    unfold glFrom at h
    rw [List.lookup_cons] at h
    split at h
    · rename_i c
      cases h
      exact ⟨e, by simp, Nat.le_refl _, (eq_of_beq c).symm⟩
    · obtain ⟨e', h1, h2, h3⟩ := gl_fn (j + 1) r cs h
      refine ⟨e', ?_, by omega, h3⟩
      rw [show i - j = (i - (j + 1)) + 1 by omega, List.getElem?_cons_succ]
      exact h1
theorem gl_cst {x : Str} {d : D} : ∀ (j : Nat) (tb : List FnE) (cs : List (Str × D)), (glFrom j tb cs).lookup x = some (.cst d) → (x, d) ∈ cs
  | j, [], cs, h => by
    have := PySem.mem_of_lookup h
    simp only [glFrom, List.mem_map] at this
    obtain ⟨p, hp, e⟩ := this
    cases e
    exact hp
  | j, e :: r, cs, h => by
    unfold glFrom at h
    rw [List.lookup_cons] at h
    split at h
    · cases h
    · exact gl_cst (j + 1) r cs h
theorem bindsK {K : PySem.W.Frag} {x qual : Str} {params : Arguments} {body : List Stmt} {scope : Scope} {kws : List (Str × V)} {f : Addr} {fd : FuncData} {ps ks : List Str} {pm : List Nat} (F : FunD K x qual params body scope [] kws f fd)
    (h : ∀ (kV doc pm' : Value) (an : Option Addr) (cdv ct : Value) (ws : List Value), ws.length = ks.length → bindArgs (PySem.W.fnOf x qual params body scope .none kV doc pm' an cdv ct) ⟨[], ks.zip ws⟩ = pure (ps.zip (pm.filterMap fun i => ws[i]?))) : KBk K fd ps ks pm := by
  obtain ⟨oc, od, dV, kV, doc, pm', an, cdv, ct, osl, rfl, lk, hcd, hD, hK⟩ := F.ex
  rcases hD with ⟨_, rfl⟩ | ⟨e, _⟩
  · exact fun s ws _ hl => .of_eq (h kV doc pm' an cdv ct ws hl)
  · exact absurd rfl e
/-- what the head tells -/
structure PrOk (K : PySem.W.Frag) (mg : Str → Option Value) (tb : List FnE) (cs : List (Str × D)) : Prop where
  fns : ∀ e ∈ tb, ∃ f fdt, FunD K e.name e.name (defArgs e.st) (defBody e.st) (defScope e.st) [] [] f fdt ∧ mg e.name = some (.ref f)
  cst : ∀ p ∈ cs, ∃ v u, mg p.1 = some u ∧ RelV v u ∧ ∀ ρ H, Rep K ρ H p.2 v
  blt : ∀ x ∈ bltNames, mg x = none
theorem prog_ok {P : Program} {W : World} {K : PySem.W.Frag} {mg : Str → Option Value} {base : Heap} {tb : List FnE} {cs : List (Str × D)} {kw : List ((Str × List Str) × List Nat)} {w : Nat} (hc : ∀ e ∈ tb, e.chk (glFrom 0 tb cs) kw) (hb : ∀ e ∈ tb, e.bnd) (hbk : ∀ e ∈ tb, e.bndk kw) (ok : PrOk K mg tb cs) :
    ∀ (k i : Nat) (e : FnE), tb[i]? = some e → ∃ f fdt, FunD K e.name e.name (defArgs e.st) (defBody e.st) (defScope e.st) [] [] f fdt ∧ mg e.name = some (.ref f) ∧ FnG P W K mg base k f fdt e.ps (spF K (callF (tbOf tb) w k i) e.fd.np) := by
  intro k
  induction k with
  | zero =>
    intro i e he
    obtain ⟨f, fdt, F, hm⟩ := ok.fns e (List.mem_of_getElem? he)
    have hl := (hc e (List.mem_of_getElem? he)).2.2.1
    refine ⟨f, fdt, F, hm, fun vs H Q q => q.1.trans hl.symm, fun A outer s H args us vs Q _ _ _ _ _ q => ?_⟩
    obtain ⟨_, ρ, h, ds, _, _, w1⟩ := q
    exact (Wd.bad w1).elim
  | succ k ih =>
    intro i e he
    obtain ⟨f, fdt, F, hm⟩ := ok.fns e (List.mem_of_getElem? he)
    obtain ⟨c1, c2, c3, c4⟩ := hc e (List.mem_of_getElem? he)
    obtain ⟨oc, od, dV, kV, doc, pm, an, cdv, ct, osl, rfl, lk, hcd, hD, hK⟩ := F.ex
    refine ⟨f, _, F, hm, ?_⟩
    have S := C8.fnScope_by c1
    refine fnG_body (show tbOf tb i = some e.fd by unfold tbOf; rw [he]; rfl) lk hcd S c4 c3 fun A outer s H hG hr => PSs.nox ?_
    refine (sndS 80).ss (cxOf CXn P W K mg base e.N e.name (defScope e.st) f cdv A outer s H En0).nox ⟨e.N, defScope e.st, fun _ => true, glFrom 0 tb cs, kw⟩ ⟨rfl, S.nd, rfl, rfl, rfl, hG, hr, fun x j hj => ?_, fun x d hd => ?_, ok.blt⟩ PassesOwn.never _ _ c2
    · obtain ⟨e2, h1, _, rfl⟩ := gl_fn 0 tb cs hj
      obtain ⟨f2, fdt2, F2, m2, G2⟩ := ih j e2 h1
      exact ⟨f2, fdt2, e2.ps, e2.fd, by unfold tbOf; rw [show tb[j]? = some e2 from h1]; rfl, (hc e2 (List.mem_of_getElem? h1)).2.2.1, G2, m2, F2.kp, F2.bindsN (hb e2 (List.mem_of_getElem? h1)), fun ks pm hp => bindsK F2 (hbk e2 (List.mem_of_getElem? h1) ks pm hp)⟩
    · exact ok.cst _ (gl_cst 0 tb cs hd)

/-! ### the law's end -/
theorem rol_ints {K : PySem.W.Frag} {ρ : List Addr} {H : Hp} : ∀ ns : List Int, Reps K ρ H (ns.map D.int) (ns.map V.int)
  | [] => rfl
  | n :: ns => ⟨_, _, rfl, rfl, rol_ints ns⟩
theorem rol_of {K : PySem.W.Frag} {H : Hp} {a : Addr} {vs : List V} (hO : Only H) (h : SqL K H a vs) : RoL K H a vs := by
  rcases h with (h | h) | h
  · rcases hO a with z | ⟨o, xs, z⟩
    · rw [h] at z; cases z
    · rw [h] at z; cases z
  · exact .inl h
  · exact .inr h
/-- the law's def is called: from what may be tracked, the promise -/
theorem callG_core {P : Program} {w : World} {K : PySem.W.Frag} {mg mb : Str → Option Value} {k : Nat} {fa a : Addr} {fd : FuncData} {x : Str} {sp : List V → Hp → VK → Prop} {s1 : Shared} {us : List Value} {H : Hp}
    (kin : K.In s1.heap) (gns : s1.heap.Ns mainGlobals mg) (bns : s1.heap.Ns builtinsNs mb) (bb : ∀ y : Str, y ≠ "__name__" → mb y = bootBuiltins y) (nl : s1.heap.NoLimit) (gs : s1.gens = #[])
    (at_ : s1.heap.get? a = some { cls := .type "list", data := .seq us.toArray }) (room : Room k callerA)
    (F : ∀ base : Heap, K.In base → base.Ns mainGlobals mg → FnG P w K mg base k fa fd [x] sp) (bind : ∀ (s : Shared) (u : Value), BindsTo s fd ⟨[u], []⟩ [(x, u)])
    (only : Only H) (hok : HOk P w H s1.heap) (alone : ∀ b, H b ≠ none → b = a) (notK : H a ≠ none → K.lookup a = none) (promise : sp [.ref a] H fun v _ => v = .bl true) :
    codeAny (model P w) callerA (.call (.ref fa) ⟨[.ref a], []⟩) (fun r s' => r = .ok (.ret (.bool true)) ∧ OldK s1.heap s'.heap ∧ s'.os = s1.os ∧ AllBare s'.gens) s1 := by
  have free : ∀ {b : Addr} {o : Obj} {es : Array DictEntry} {ep : Nat}, s1.heap.get? b = some o → o.data = .dict es ep → H b = none := by
    intro b o es ep e d
    by_cases q : H b = none
    · exact q
    · obtain rfl := alone b q
      rw [at_] at e
      cases e
      exact nomatch (show Data.seq us.toArray _ = Data.dict es ep from d)
  have keepN : ∀ {b : Addr} {m : Str → Option Value}, s1.heap.Ns b m → (hidT s1.heap H).Ns b m := by
    rintro b m ⟨o, es, ep, e, d, r⟩
    exact ⟨o, es, ep, hidT_get e (free e d), d, r⟩
  have kin2 : K.In (hidT s1.heap H) := by
    intro b o e
    refine hidT_get (kin b o e) ?_
    by_cases q : H b = none
    · exact q
    · obtain rfl := alone b q
      rw [notK q] at e
      cases e
  have md : Mod K mg (hidT s1.heap H) := ⟨kin2, keepN gns, ⟨mb, keepN bns, bb⟩, nl.elim fun mc h => ⟨mc, keepN h.1, h.2⟩⟩
  have start : Env0 P w K mg (hidT s1.heap H) callerA [] s1 H := ⟨rfl, md, fun b o e => of_hidT e, Nat.le_of_eq (hidT_size _ _), trivial, fun b hb => (List.not_mem_nil (show b ∈ ([] : List Addr) from hb)).elim, hok, .of_eq gs⟩
  refine codeAny_mono ((F _ kin2 (keepN gns)).run callerA [] s1 H ⟨[.ref a], []⟩ [.ref a] [.ref a] _ rfl room start (bind s1 (.ref a)) (.cons rfl .nil) promise) fun r s' h => ?_
  match r, h with
  | .ok (.ret u), h =>
    obtain ⟨v, H', os, bare, un, hok', r', q⟩ := h
    obtain rfl : v = .bl true := q
    obtain rfl : u = Value.bool true := r'
    refine ⟨rfl, OldK.of_keep fun b o e => ?_, os, bare⟩
    by_cases q : H b = none
    · exact un.keep b o e q (fun z => (List.not_mem_nil (show b ∈ ([] : List Addr) from z)).elim) (by simp)
    · rcases only b with z | ⟨ob, xs, z⟩
      · exact absurd z q
      · obtain ⟨e1, _⟩ := hok b _ z
        obtain ⟨e2, _⟩ := hok' b _ (un.frzs b ob _ z)
        rw [e] at e1
        cases e1
        exact e2
/-- THE END: the law's def by its promise over every base -/
theorem walk_ofG {l : PySem.W.OpenLaw} {n k : Nat} {q : Program} {loose : List Str} {XP : (Str → Option Value) → Heap → Prop} {YP : World → Heap → Prop} {d : DefRec} {x : Str}
    (hn : l.most = some n) (hn2 : n ≤ sizeLine) (hdf : d.params.defaults = []) (room : Room k callerA)
    (F : ∀ (w : World) (mg : Str → Option Value) (fa : Addr) (h : Heap), YP w h → h.Ns mainGlobals mg → mg d.name = some (.ref fa) →
      ∃ (K : PySem.W.Frag) (fd : FuncData) (sp : List V → Hp → VK → Prop), K.In h ∧ (∀ (s : Shared) (u : Value), BindsTo s fd ⟨[u], []⟩ [(x, u)]) ∧
        (∀ (H : Hp) (a : Addr) (ns : List Int), ns.length ≤ n → Only H → SqL K H a (ns.map V.int) → sp [.ref a] H fun v _ => v = .bl true) ∧ ∀ base : Heap, K.In base → base.Ns mainGlobals mg → FnG l.prog w K mg base k fa fd [x] sp) :
    PySem.W.WalkO q loose XP YP l.row.toRowW d [] (fun f vs => PySem.call f vs) := by
  refine Att.attach_call hn hdf fun w s₀ s₁ mg mb fa o pm cd doc a us ns G Y _ _ _ hmg at_ isI len gs => ?_
  obtain ⟨K, fd, sp, kin, bind, promise, FG⟩ := F w mg fa _ Y G.T.g hmg
  have rv := vals_ints isI
  have hl : us.length ≤ sizeLine := by rw [isI.length]; omega
  by_cases hk : K.lookup a = none
  · let H : Hp := fun b => if b = a then some (.frz { cls := .type "list", data := .seq us.toArray } (.lst (ns.map V.int))) else none
    have Ha : H a = some (.frz { cls := .type "list", data := .seq us.toArray } (.lst (ns.map V.int))) := if_pos rfl
    have Hb : ∀ b, b ≠ a → H b = none := fun b h => if_neg h
    have only : Only H := fun b => if h : b = a then .inr ⟨_, _, h ▸ Ha⟩ else .inl (Hb b h)
    refine callG_core (H := H) kin G.T.g G.T.b G.T.builtins G.T.nolimit gs at_ room FG bind only (fun b u z => ?_) (fun b z => ?_) (fun _ => hk) (promise H a ns len only (.inl (.inr ⟨_, Ha⟩)))
    · by_cases h : b = a
      · subst h
        rw [Ha] at z
        cases z
        exact ⟨at_, by rw [rv.length]; exact hl, us, _, rv, at_⟩
      · rw [Hb b h] at z
        cases z
    · by_cases h : b = a
      · exact h
      · exact absurd (Hb b h) z
  · obtain ⟨o2, ho2⟩ := Option.ne_none_iff_exists'.mp hk
    have e := kin a o2 ho2
    rw [at_] at e
    cases e
    have only : Only fun _ => none := fun _ => .inl rfl
    exact callG_core (H := fun _ => none) kin G.T.g G.T.b G.T.builtins G.T.nolimit gs at_ room FG bind only (fun b u z => nomatch z) (fun b z => absurd rfl z) (fun z => absurd rfl z)
      (promise (fun _ => none) a ns len only (.inr ⟨_, us.toArray, _, ho2, rfl, rfl, rfl, by rw [List.size_toArray]; exact hl, by simpa using rv⟩))
end Ev

set_option Elab.async false
set_option linter.all false
set_option maxRecDepth 100000
set_option maxHeartbeats 4000000
namespace Ev
open PySem

/-! ### what a run of the evaluator gives -/
def Ok {α : Type} (r : R α) (Q : α → Hh → Prop) : Prop := match r with
  | .ok a h => Q a h
  | .bad => False
section
variable {α β : Type} {r : R α} {Q Q' : α → Hh → Prop} {a : α} {h h' : Hh}
@[simp] theorem ok_ok : Ok (.ok a h) Q ↔ Q a h := (Iff.rfl)
@[simp] theorem ok_bad : Ok (.bad : R α) Q ↔ False := (Iff.rfl)
@[simp] theorem ok_bind {f : α → Hh → R β} {Q : β → Hh → Prop} : Ok (r.bind f) Q ↔ Ok r fun a h => Ok (f a h) Q := by cases r <;> exact Iff.rfl
theorem Ok.imp (k : Ok r Q) (f : ∀ a h, Q a h → Q' a h) : Ok r Q' := by
  cases r with
  | ok a h => exact f a h k
  | bad => exact k
theorem ok_eq : r = .ok a h ↔ Ok r fun a' h' => a' = a ∧ h' = h := by
  cases r with
  | ok a' h' => constructor
                · intro e; cases e; exact ⟨rfl, rfl⟩
                · rintro ⟨rfl, rfl⟩; rfl
  | bad => constructor <;> intro e <;> cases e
theorem Ok.ex (k : Ok r Q) : ∃ a h, r = .ok a h ∧ Q a h := by
  cases r with
  | ok a h => exact ⟨a, h, rfl, k⟩
  | bad => exact k.elim
end

/-! ### loops -/
/-- how a turn of a loop may end -/
def Fl.to (I : En → Hh → Prop) (Q : Fl → Hh → Prop) : Fl → Hh → Prop
  | .nx σ, h => I σ h
  | .ct σ, h => I σ h
  | .bk σ, h => Q (.nx σ) h
  | .rt d, h => Q (.rt d) h
@[simp] theorem Fl.to_nx {I : En → Hh → Prop} {Q : Fl → Hh → Prop} {σ : En} {h : Hh} : Fl.to I Q (.nx σ) h ↔ I σ h := (Iff.rfl)
@[simp] theorem Fl.to_ct {I : En → Hh → Prop} {Q : Fl → Hh → Prop} {σ : En} {h : Hh} : Fl.to I Q (.ct σ) h ↔ I σ h := (Iff.rfl)
@[simp] theorem Fl.to_bk {I : En → Hh → Prop} {Q : Fl → Hh → Prop} {σ : En} {h : Hh} : Fl.to I Q (.bk σ) h ↔ Q (.nx σ) h := (Iff.rfl)
@[simp] theorem Fl.to_rt {I : En → Hh → Prop} {Q : Fl → Hh → Prop} {d : D} {h : Hh} : Fl.to I Q (.rt d) h ↔ Q (.rt d) h := (Iff.rfl)
theorem loop_ok {deps : Deps} {f : D → En → Hh → R Fl} {Q : Fl → Hh → Prop} : ∀ (xs : List D) (I : List D → En → Hh → Prop) (σ : En) (h : Hh), I xs σ h → (∀ ys σ h, I ys σ h → depOk h deps = true) →
    (∀ x ys σ h, I (x :: ys) σ h → Ok (f x σ h) (Fl.to (I ys) Q)) → (∀ σ h, I [] σ h → Q (.nx σ) h) → Ok (loopD deps f xs σ h) Q
  | [], I, σ, h, h0, hd, hs, hf => by
    rw [loopD, if_pos (hd _ _ _ h0)]
    exact hf _ _ h0
  | x :: xs, I, σ, h, h0, hd, hs, hf => by
    rw [loopD_eq (hd _ _ _ h0), ok_bind]
    refine (hs x xs σ h h0).imp fun g h2 q => ?_
    cases g with
    | nx σ' => exact loop_ok xs I σ' h2 q hd hs hf
    | ct σ' => exact loop_ok xs I σ' h2 q hd hs hf
    | bk σ' => exact q
    | rt d => exact q
theorem while_ok {c : En → Hh → R D} {f : En → Hh → R Fl} {Q : Fl → Hh → Prop} (I : Nat → En → Hh → Prop)
    (hs : ∀ m σ h, I m σ h → Ok (c σ h) fun d h1 => ∃ b, d = .bl b ∧ if b = true then Ok (f σ h1) (Fl.to (fun σ' h' => ∃ m', m' < m ∧ I m' σ' h') Q) else Q (.nx σ) h1) :
    ∀ (w m : Nat) (σ : En) (h : Hh), m < w → I m σ h → Ok (whileD c f w σ h) Q
  | 0, m, σ, h, hw, h0 => absurd hw (Nat.not_lt_zero _)
  | w + 1, m, σ, h, hw, h0 => by
    rw [whileD_eq, ok_bind]
    refine (hs m σ h h0).imp fun d h1 ⟨b, e, q⟩ => ?_
    subst e
    cases b with
    | false => exact q
    | true =>
      rw [if_pos rfl] at q
      show Ok (R.bind _ _) _
      rw [ok_bind]
      refine q.imp fun g h2 q => ?_
      cases g with
      | nx σ' => obtain ⟨m', hm, q⟩ := q; exact while_ok I hs w m' σ' h2 (by omega) q
      | ct σ' => obtain ⟨m', hm, q⟩ := q; exact while_ok I hs w m' σ' h2 (by omega) q
      | bk σ' => exact q
      | rt d => exact q
theorem comp_ok {deps : Deps} {f : D → Hh → R (Option D)} {Q : List D → Hh → Prop} : ∀ (xs : List D) (I : List D → List D → Hh → Prop) (acc : List D) (h : Hh), I xs acc h → (∀ ys acc h, I ys acc h → depOk h deps = true) →
    (∀ x ys acc h, I (x :: ys) acc h → Ok (f x h) fun o h' => I ys (acc ++ o.toList) h') → (∀ acc h, I [] acc h → Q acc h) → Ok (compD deps f xs acc h) Q
  | [], I, acc, h, h0, hd, hs, hf => by
    rw [compD, if_pos (hd _ _ _ h0)]
    exact hf _ _ h0
  | x :: xs, I, acc, h, h0, hd, hs, hf => by
    rw [compD, if_pos (hd _ _ _ h0)]
    obtain ⟨o, h2, e, q⟩ := (hs x xs acc h h0).ex
    rw [e]
    cases o with
    | none => exact comp_ok xs I acc h2 (by simpa using q) hd hs hf
    | some y => exact comp_ok xs I (acc ++ [y]) h2 q hd hs hf
/-- turns that change nothing -/
theorem compD_pure {deps : Deps} {f : D → Hh → R (Option D)} {g : D → Option D} {h : Hh} (dk : depOk h deps = true) : ∀ (xs acc : List D), (∀ x ∈ xs, f x h = .ok (g x) h) → compD deps f xs acc h = .ok (acc ++ xs.filterMap g) h
  | [], acc, _ => by rw [compD, if_pos dk]; simp
  | x :: xs, acc, hf => by
    rw [compD, if_pos dk, hf x List.mem_cons_self]
    cases e : g x with
    | none =>
      simp only
      rw [compD_pure dk xs acc fun y hy => hf y (List.mem_cons_of_mem _ hy), List.filterMap_cons, e]
    | some y =>
      simp only
      rw [compD_pure dk xs (acc ++ [y]) fun y hy => hf y (List.mem_cons_of_mem _ hy), List.filterMap_cons, e]
      simp
theorem compD_map {deps : Deps} {f : D → Hh → R (Option D)} {g : D → D} {h : Hh} (dk : depOk h deps = true) (xs : List D) (hf : ∀ x ∈ xs, f x h = .ok (some (g x)) h) : compD deps f xs [] h = .ok (xs.map g) h := by
  rw [compD_pure (g := fun x => some (g x)) dk xs [] hf]
  simp

/-! ### calls -/
def Fl.val : Fl → Option D
  | .rt d => some d
  | .nx _ => some .non
  | _ => none
@[simp] theorem Fl.val_rt {d : D} : Fl.val (.rt d) = some d := (rfl)
@[simp] theorem Fl.val_nx {σ : En} : Fl.val (.nx σ) = some .non := (rfl)
section
variable {T : Nat → Option Fd} {w k f : Nat} {fd : Fd} {ds : List D} {h : Hh} {d : D}
/-- the entry's names -/
def ent (fd : Fd) (ds : List D) : En := ds.map some ++ List.replicate (fd.nl - fd.np) none
theorem call_ok {Q : D → Hh → Prop} (hf : T f = some fd) (hl : ds.length = fd.np) (b : Ok (exSs (callF T w k) w fd.body (ent fd ds) h) fun fl h' => ∃ d, fl.val = some d ∧ Ok (fin h d h') Q) : Ok (callF T w (k + 1) f ds h) Q := by
  unfold callF
  rw [hf]
  simp only [hl, if_true]
  unfold ent at b
  cases e : exSs (callF T w k) w fd.body (ds.map some ++ List.replicate (fd.nl - fd.np) none) h with
  | bad => rw [e] at b; exact b.elim
  | ok fl h' =>
    rw [e] at b
    obtain ⟨d, e1, q⟩ := b
    cases fl <;> cases e1 <;> exact q
theorem fin_pre {h' : Hh} (hp : h <+: h') (hd : D.lt h.length d = true) : fin h d h' = .ok d h := by
  unfold fin
  rw [if_pos ⟨hd, by obtain ⟨t, rfl⟩ := hp; simp⟩]
theorem fin_same : fin h d h = .ok d h := by
  unfold fin
  split <;> rfl
/-- a def that leaves everything as it was -/
theorem call_pure (hf : T f = some fd) (hl : ds.length = fd.np) (hd : D.lt h.length d = true) (b : Ok (exSs (callF T w k) w fd.body (ent fd ds) h) fun fl h' => fl.val = some d ∧ h <+: h') : callF T w (k + 1) f ds h = .ok d h :=
  ok_eq.mpr (call_ok hf hl (b.imp fun fl h' ⟨e, p⟩ => ⟨d, e, by rw [fin_pre p hd]; exact ⟨rfl, rfl⟩⟩))
theorem fin_any {h' : Hh} {Q : D → Hh → Prop} (hp : h <+: h') (q1 : D.lt h.length d = true → Q d h) (q2 : D.lt h.length d = false → Q d h') : Ok (fin h d h') Q := by
  cases e : D.lt h.length d with
  | true => rw [fin_pre hp e]; exact q1 e
  | false =>
    unfold fin
    rw [if_neg (by rw [e]; simp)]
    exact q2 e
end
theorem Pre.get {h h' : Hh} {n : Nat} {o : O} (p : h <+: h') (e : h[n]? = some o) : h'[n]? = some o := by
  obtain ⟨t, rfl⟩ := p
  rw [List.getElem?_append_left (List.getElem?_eq_some_iff.mp e).1]
  exact e
theorem Pre.push {h h' : Hh} {o : O} (p : h <+: h') : h <+: h' ++ [o] := p.trans (List.prefix_append _ _)
theorem Pre.set {h h' : Hh} {n : Nat} {o : O} (p : h <+: h') (l : h.length ≤ n) : h <+: h'.set n o := by
  obtain ⟨t, rfl⟩ := p
  rw [List.set_append_right _ _ l]
  exact List.prefix_append _ _
theorem Pre.len {h h' : Hh} (p : h <+: h') : h.length ≤ h'.length := p.length_le

/-! ### plain data without numbers of the store -/
mutual
def pd : D → PyData
  | .non => .none
  | .bl b => .bool b
  | .int i => .int i
  | .str x => .str x
  | .tup xs => .tuple (pds xs)
  | .rol xs => .list (pds xs)
  | .obj _ => .none
def pds : List D → List PyData
  | [] => []
  | x :: xs => pd x :: pds xs
end
mutual
theorem toP_pd {h : Hh} : ∀ (k : Nat) (d : D), D.lt 0 d = true → toP h k d = some (pd d)
  | _, .non, _ => by simp [toP, pd]
  | _, .bl b, _ => by simp [toP, pd]
  | _, .int b, _ => by simp [toP, pd]
  | _, .str b, _ => by simp [toP, pd]
  | k, .tup xs, l => by
    have l : D.lts 0 xs = true := l
    simp [toP, pd, toPs_pds k xs l]
  | k, .rol xs, l => by
    have l : D.lts 0 xs = true := l
    simp [toP, pd, toPs_pds k xs l]
  | _, .obj n, l => by simp [D.lt] at l
theorem toPs_pds {h : Hh} : ∀ (k : Nat) (ds : List D), D.lts 0 ds = true → toPs h k ds = some (pds ds)
  | _, [], _ => by simp [toPs, pds]
  | k, d :: ds, l => by
    have l : (D.lt 0 d && D.lts 0 ds) = true := l
    simp only [Bool.and_eq_true] at l
    simp [toPs, pds, toP_pd k d l.1, toPs_pds k ds l.2]
end
/-- plain, of some depth -/
def cln (n : Nat) (d : D) : Bool := D.lt 0 d && (pd d).canLay0 && decide ((pd d).depth ≤ n)
def clns (n : Nat) (ds : List D) : Bool := D.lts 0 ds && PyData.canLayAll0 (pds ds) && decide (PyData.depthAll (pds ds) ≤ n)
theorem cln_lt {n : Nat} {d : D} (c : cln n d = true) : D.lt 0 d = true := by
  unfold cln at c; simp only [Bool.and_eq_true] at c; exact c.1.1
theorem cln_shaped {n : Nat} {d : D} (c : cln n d = true) (hn : n ≤ 64) : SeqAt.shaped (pd d) = true := by
  unfold cln at c; simp only [Bool.and_eq_true, decide_eq_true_eq] at c
  unfold SeqAt.shaped; rw [c.1.2, decide_eq_true (by omega)]; rfl
theorem clns_cons {n : Nat} {d : D} {ds : List D} : clns n (d :: ds) = (cln n d && clns n ds) := by
  simp only [clns, cln, D.lts, pds, PyData.canLayAll0, PyData.depthAll, Nat.max_le, Bool.decide_and]
  cases D.lt 0 d <;> cases D.lts 0 ds <;> cases (pd d).canLay0 <;> cases PyData.canLayAll0 (pds ds) <;> simp
theorem clns_all {n : Nat} {ds : List D} : clns n ds = ds.all (cln n) := by
  induction ds with
  | nil => simp [clns, D.lts, pds, PyData.canLayAll0, PyData.depthAll]
  | cons d ds ih => rw [clns_cons, ih, List.all_cons]
theorem cln_tup {n : Nat} {ds : List D} : cln (n + 1) (.tup ds) = ds.all (cln n) := by
  rw [← clns_all]
  simp [clns, cln, D.lt, pd, PyData.canLay0, PyData.depth]
@[simp] theorem cln_int {n : Nat} {i : Int} : cln n (.int i) = true := by simp [cln, D.lt, pd, PyData.canLay0, PyData.depth]
@[simp] theorem cln_bl {n : Nat} {i : Bool} : cln n (.bl i) = true := by simp [cln, D.lt, pd, PyData.canLay0, PyData.depth]
@[simp] theorem cln_non {n : Nat} : cln n .non = true := by simp [cln, D.lt, pd, PyData.canLay0, PyData.depth]
theorem eqD_cln {h : Hh} {n : Nat} {x y : D} (cx : cln n x = true) (cy : cln n y = true) (hn : n ≤ 64) (hs : ∀ a, x ≠ .str a) : eqD h x y = some (PyData.eqv (pd x) (pd y)) := by
  have e : eqD h x y = match toP h 8 x, toP h 8 y with
    | some p, some q => if SeqAt.shaped p = true ∧ SeqAt.shaped q = true then some (PyData.eqv p q) else none
    | _, _ => none := by
    cases x <;> first | rfl | exact absurd rfl (hs _)
  rw [e, toP_pd 8 x (cln_lt cx), toP_pd 8 y (cln_lt cy)]
  simp only
  rw [if_pos ⟨cln_shaped cx hn, cln_shaped cy hn⟩]
theorem lts_zero_mono : ∀ {d : D} {n : Nat}, D.lt 0 d = true → D.lt n d = true := by
  intro d n
  have both : (∀ d : D, D.lt 0 d = true → D.lt n d = true) := by
    intro d
    refine D.rec (motive_1 := fun d => D.lt 0 d = true → D.lt n d = true) (motive_2 := fun ds => D.lts 0 ds = true → D.lts n ds = true) ?_ ?_ ?_ ?_ ?_ ?_ ?_ ?_ ?_ d
    · exact fun _ => rfl
    · exact fun _ _ => rfl
    · exact fun _ _ => rfl
    · exact fun _ _ => rfl
    · exact fun xs ih h => ih h
    · exact fun xs ih h => ih h
    · intro m h; simp [D.lt] at h
    · exact fun _ => rfl
    · intro x xs ih1 ih2 h
      have h : (D.lt 0 x && D.lts 0 xs) = true := h
      simp only [Bool.and_eq_true] at h
      show (D.lt n x && D.lts n xs) = true
      rw [ih1 h.1, ih2 h.2]
      rfl
  exact both d
theorem tyName_lt {h : Hh} {d : D} (l : D.lt 0 d = true) : (tyName h d).isSome = true := by
  cases d <;> first | rfl | (simp [D.lt] at l)

/-! ### operators on ints -/
section
variable {h : Hh} {i j : Int}
@[simp] theorem cmp_eq_int : cmpop h .eq (.int i) (.int j) = some (decide (i = j)) := by
  show (match toP h 8 (.int i), toP h 8 (.int j) with
    | some p, some q => if SeqAt.shaped p = true ∧ SeqAt.shaped q = true then some (PyData.eqv p q) else none
    | _, _ => none) = _
  simp [toP, SeqAt.shaped, PyData.canLay0, PyData.depth, PyData.eqv]
  rfl
@[simp] theorem cmp_ne_int : cmpop h .ne (.int i) (.int j) = some (!decide (i = j)) := by
  show (cmpop h .eq (.int i) (.int j)).map (!·) = _
  rw [cmp_eq_int]; rfl
@[simp] theorem cmp_lt_int : cmpop h .lt (.int i) (.int j) = some (decide (i < j)) := (rfl)
@[simp] theorem cmp_le_int : cmpop h .le (.int i) (.int j) = some (decide (i ≤ j)) := (rfl)
@[simp] theorem cmp_gt_int : cmpop h .gt (.int i) (.int j) = some (decide (j < i)) := (rfl)
@[simp] theorem cmp_ge_int : cmpop h .ge (.int i) (.int j) = some (decide (j ≤ i)) := (rfl)
@[simp] theorem cmp_is_non {x : D} : cmpop h .is x .non = some (decide (x = .non)) := by cases x <;> rfl
@[simp] theorem cmp_isn_non {x : D} : cmpop h .isn x .non = some (!decide (x = .non)) := by cases x <;> rfl
@[simp] theorem cmp_eq_str {a b : Str} : cmpop h .eq (.str a) (.str b) = some (decide (a = b)) := (rfl)
@[simp] theorem cmp_ne_str {a b : Str} : cmpop h .ne (.str a) (.str b) = some (!decide (a = b)) := (rfl)
@[simp] theorem bin_add_int : binop .add (.int i) (.int j) h = .ok (.int (i + j)) h := (rfl)
@[simp] theorem bin_sub_int : binop .sub (.int i) (.int j) h = .ok (.int (i - j)) h := (rfl)
theorem bin_mul_l (c : -(2 ^ 64) < i ∧ i < 2 ^ 64) : binop .mul (.int i) (.int j) h = .ok (.int (i * j)) h := if_pos (.inl (.inl c))
theorem bin_mul_r (c : -(2 ^ 64) < j ∧ j < 2 ^ 64) : binop .mul (.int i) (.int j) h = .ok (.int (i * j)) h := if_pos (.inl (.inr c))
theorem bin_fdiv (c : 0 < j) (c2 : j < 1073741824) : binop .fdiv (.int i) (.int j) h = .ok (.int (i / j)) h := if_pos ⟨c, .inl c2⟩
theorem bin_mod (c : 0 < j) : binop .mod (.int i) (.int j) h = .ok (.int (i % j)) h := if_pos c
@[simp] theorem b01_some {b : Bool} : b01 (some b) h = .ok (.bl b) h := (rfl)
@[simp] theorem bi_isi {n : String} {x : D} : biop (.isi n) [x] h = match tyName h x with
    | some t => b01 (isiT t n) h
    | none => .bad := by cases x <;> rfl
@[simp] theorem bi_len_tup {xs : List D} : biop .len [.tup xs] h = .ok (.int xs.length) h := (rfl)
@[simp] theorem bi_abs_int : biop .abs [.int i] h = .ok (.int (if i < 0 then -i else i)) h := (rfl)
@[simp] theorem bi_int_int : biop .int [.int i] h = .ok (.int i) h := (rfl)
end
@[simp] theorem isiT_int {t : String} : isiT t "int" = some (t == "int" || t == "bool") := (rfl)
@[simp] theorem isiT_bool {t : String} : isiT t "bool" = some (t == "bool") := (rfl)
@[simp] theorem isiT_str {t : String} : isiT t "str" = some (t == "str") := (rfl)
@[simp] theorem isiT_tuple {t : String} : isiT t "tuple" = some (t == "tuple") := (rfl)
@[simp] theorem isiT_list {t : String} : isiT t "list" = some (t == "list") := (rfl)

/-! ### the evaluator, constructor by constructor -/
section
variable {cf : CF} {w : Nat} {σ : En} {h : Hh} {a b c e : E} {es r : Es} {i f : Nat} {pm : List Nat} {d : D} {o : Op} {cm cm2 : Cm} {lo hi : Eo} {bi : Bi} {cp : Cp} {t : T} {ts : Ts} {it : It} {x : D} {xs : List D} {is : List Nat} {s : S} {p q : Ss}
@[simp] theorem e_var : evE cf (.var i) σ h = getV σ i h := (rfl)
@[simp] theorem e_lit : evE cf (.lit d) σ h = .ok d h := (rfl)
@[simp] theorem e_bin : evE cf (.bin o a b) σ h = (evE cf a σ h).bind fun x h1 => (evE cf b σ h1).bind fun y h2 => binop o x y h2 := (rfl)
@[simp] theorem e_neg : evE cf (.neg a) σ h = (evE cf a σ h).bind fun x h1 => match x with | .int i => .ok (.int (-i)) h1 | _ => .bad := (rfl)
@[simp] theorem e_not : evE cf (.not a) σ h = (evE cf a σ h).bind fun x h1 => match x with | .bl b => .ok (.bl (!b)) h1 | _ => .bad := (rfl)
@[simp] theorem e_cmp : evE cf (.cmp cm a b) σ h = (evE cf a σ h).bind fun x h1 => (evE cf b σ h1).bind fun y h2 => b01 (cmpop h2 cm x y) h2 := (rfl)
@[simp] theorem e_cmp2 : evE cf (.cmp2 cm cm2 a b c) σ h = (evE cf a σ h).bind fun x h1 => (evE cf b σ h1).bind fun y h2 => match cmpop h2 cm x y with
    | some true => (evE cf c σ h2).bind fun z h3 => b01 (cmpop h3 cm2 y z) h3
    | some false => .ok (.bl false) h2
    | none => .bad := (rfl)
@[simp] theorem e_and : evE cf (.and a b) σ h = (evE cf a σ h).bind fun x h1 => match x with | .bl true => evE cf b σ h1 | .bl false => .ok (.bl false) h1 | _ => .bad := (rfl)
@[simp] theorem e_or : evE cf (.or a b) σ h = (evE cf a σ h).bind fun x h1 => match x with | .bl true => .ok (.bl true) h1 | .bl false => evE cf b σ h1 | _ => .bad := (rfl)
@[simp] theorem e_ife : evE cf (.ife c a b) σ h = (evE cf c σ h).bind fun x h1 => match x with | .bl true => evE cf a σ h1 | .bl false => evE cf b σ h1 | _ => .bad := (rfl)
@[simp] theorem e_tup : evE cf (.tup es) σ h = (evEs cf es σ h).bind fun xs h1 => if xs.length ≤ sizeLine then .ok (.tup xs) h1 else .bad := (rfl)
@[simp] theorem e_lst : evE cf (.lst es) σ h = (evEs cf es σ h).bind fun xs h1 => if xs.length ≤ sizeLine then .ok (.obj h1.length) (h1 ++ [.lst xs]) else .bad := (rfl)
@[simp] theorem e_idx : evE cf (.idx a b) σ h = (evE cf a σ h).bind fun x h1 => (evE cf b σ h1).bind fun y h2 => match ixop h2 x y with | some d => .ok d h2 | none => .bad := (rfl)
@[simp] theorem e_slc : evE cf (.slc a lo hi) σ h = (evE cf a σ h).bind fun x h1 => (evEo cf lo σ h1).bind fun y h2 => (evEo cf hi σ h2).bind fun z h3 => slop h3 x y z := (rfl)
@[simp] theorem e_rev : evE cf (.rev a) σ h = (evE cf a σ h).bind fun x h1 => revop h1 x := (rfl)
@[simp] theorem e_call : evE cf (.call f es) σ h = (evEs cf es σ h).bind fun xs h1 => cf f xs h1 := (rfl)
@[simp] theorem e_callk : evE cf (.callk f pm es) σ h = (evEs cf es σ h).bind fun xs h1 => cf f (pm.filterMap fun i => xs[i]?) h1 := (rfl)
@[simp] theorem e_bi : evE cf (.bi bi es) σ h = (evEs cf es σ h).bind fun xs h1 => biop bi xs h1 := (rfl)
@[simp] theorem e_comp : evE cf (.comp cp) σ h = (evC cf cp σ h).bind fun xs h1 => .ok (.obj h1.length) (h1 ++ [.lst xs]) := (rfl)
@[simp] theorem e_bq : evE cf (.bq bi cp) σ h = (evC cf cp σ h).bind fun xs h1 => biL bi xs h1 := (rfl)
@[simp] theorem e_mk {ifs : Eo} {own : List Nat} : evC cf (.mk e t it ifs own) σ h = (evI cf it σ h).bind fun p h1 => if p.1.length ≤ sizeLine then compD p.2 (fun x h2 => (asT cf t x (wipeE σ own) h2).bind fun σ1 h3 => (evT cf ifs σ1 h3).bind fun b h4 =>
    if b then (evE cf e σ1 h4).bind fun y h5 => .ok (some y) h5 else .ok none h4) p.1 [] h1 else .bad := (rfl)
@[simp] theorem t_no : evT cf .no σ h = .ok true h := (rfl)
@[simp] theorem t_so : evT cf (.so a) σ h = (evE cf a σ h).bind fun x h1 => match x with | .bl b => .ok b h1 | _ => .bad := (rfl)
@[simp] theorem es_nil : evEs cf .nil σ h = .ok [] h := (rfl)
@[simp] theorem es_cons : evEs cf (.cons e r) σ h = (evE cf e σ h).bind fun x h1 => (evEs cf r σ h1).bind fun xs h2 => .ok (x :: xs) h2 := (rfl)
@[simp] theorem eo_no : evEo cf .no σ h = .ok none h := (rfl)
@[simp] theorem eo_so : evEo cf (.so a) σ h = (evE cf a σ h).bind fun x h1 => match x with | .int i => .ok (some i) h1 | _ => .bad := (rfl)
@[simp] theorem i_seq : evI cf (.seq e) σ h = (evE cf e σ h).bind fun x h1 => match seqD h1 x with | some p => .ok p h1 | none => .bad := (rfl)
@[simp] theorem i_rng : evI cf (.rng es) σ h = (evEs cf es σ h).bind fun xs h1 => match rngop xs with | some p => .ok (p, []) h1 | none => .bad := (rfl)
@[simp] theorem i_enm : evI cf (.enm e) σ h = (evE cf e σ h).bind fun x h1 => match seqD h1 x with | some p => .ok (enumD 0 p.1, p.2) h1 | none => .bad := (rfl)
@[simp] theorem i_zip : evI cf (.zip a b) σ h = (evE cf a σ h).bind fun x h1 => (evE cf b σ h1).bind fun y h2 => match zipop h2 x y with | some p => .ok p h2 | none => .bad := (rfl)
@[simp] theorem as_nm : asT cf (.nm i) x σ h = .ok (σ.set i (some x)) h := (rfl)
@[simp] theorem as_tp : asT cf (.tp ts) x σ h = match itemsOf h x with | some xs => asTs cf ts xs σ h | none => .bad := (rfl)
@[simp] theorem as_sub : asT cf (.sub a b) d σ h = (evE cf a σ h).bind fun x h1 => (evE cf b σ h1).bind fun y h2 => (setop h2 x y d).bind fun _ h3 => .ok σ h3 := (rfl)
@[simp] theorem ats_nil : asTs cf .nil [] σ h = .ok σ h := (rfl)
@[simp] theorem ats_cons : asTs cf (.cons t ts) (x :: xs) σ h = (asT cf t x σ h).bind fun σ1 h1 => asTs cf ts xs σ1 h1 := (rfl)
@[simp] theorem x_asg : exS cf w (.asg t e) σ h = (evE cf e σ h).bind fun x h1 => (asT cf t x σ h1).bind fun σ1 h2 => .ok (.nx σ1) h2 := (rfl)
@[simp] theorem x_par : exS cf w (.par is es) σ h = (evEs cf es σ h).bind fun xs h1 => if xs.length = is.length then .ok (.nx (setAll σ is xs)) h1 else .bad := (rfl)
@[simp] theorem x_aug : exS cf w (.aug o i e) σ h = (getV σ i h).bind fun x h0 => (evE cf e σ h0).bind fun y h1 => (augop o x y h1).bind fun z h2 => .ok (.nx (σ.set i (some z))) h2 := (rfl)
@[simp] theorem x_augs : exS cf w (.augs o a b e) σ h = (evE cf a σ h).bind fun x h1 => (evE cf b σ h1).bind fun y h2 => (getop h2 x y).bind fun v h3 => (evE cf e σ h3).bind fun u h4 => (augop o v u h4).bind fun z h5 => (setop h5 x y z).bind fun _ h6 => .ok (.nx σ) h6 := (rfl)
@[simp] theorem x_app : exS cf w (.app a e) σ h = (evE cf a σ h).bind fun x h1 => (evE cf e σ h1).bind fun y h2 => (appop x y h2).bind fun _ h3 => .ok (.nx σ) h3 := (rfl)
@[simp] theorem x_ret : exS cf w (.ret e) σ h = (evE cf e σ h).bind fun x h1 => .ok (.rt x) h1 := (rfl)
@[simp] theorem x_retn : exS cf w .retn σ h = .ok (.rt .non) h := (rfl)
@[simp] theorem x_ite : exS cf w (.ite c p q) σ h = (evE cf c σ h).bind fun x h1 => match x with | .bl true => exSs cf w p σ h1 | .bl false => exSs cf w q σ h1 | _ => .bad := (rfl)
@[simp] theorem x_whl : exS cf w (.whl c p) σ h = whileD (fun σ h => evE cf c σ h) (fun σ h => exSs cf w p σ h) w σ h := (rfl)
@[simp] theorem x_loop : exS cf w (.loop t it p) σ h = (evI cf it σ h).bind fun p' h1 => loopD p'.2 (fun x σ h => (asT cf t x σ h).bind fun σ1 h2 => exSs cf w p σ1 h2) p'.1 σ h1 := (rfl)
@[simp] theorem x_brk : exS cf w .brk σ h = .ok (.bk σ) h := (rfl)
@[simp] theorem x_pass : exS cf w .pass σ h = .ok (.nx σ) h := (rfl)
@[simp] theorem xs_nil : exSs cf w .nil σ h = .ok (.nx σ) h := (rfl)
@[simp] theorem xs_cons : exSs cf w (.cons s p) σ h = (exS cf w s σ h).bind fun f h1 => match f with | .nx σ1 => exSs cf w p σ1 h1 | f => .ok f h1 := (rfl)
@[simp] theorem getV_eq : getV σ i h = match σ[i]? with | some (some d) => .ok d h | _ => .bad := (rfl)
end
@[simp] theorem ent_eq {fd : Fd} {ds : List D} : ent fd ds = ds.map some ++ List.replicate (fd.nl - fd.np) none := (rfl)
@[simp] theorem items_tup {h : Hh} {xs : List D} : itemsOf h (.tup xs) = some xs := (rfl)
@[simp] theorem items_rol {h : Hh} {xs : List D} : itemsOf h (.rol xs) = some xs := (rfl)
@[simp] theorem seq_tup {h : Hh} {xs : List D} : seqD h (.tup xs) = some (xs, []) := (rfl)
@[simp] theorem seq_rol {h : Hh} {xs : List D} : seqD h (.rol xs) = some (xs, []) := (rfl)
@[simp] theorem dep_nil {h : Hh} : depOk h [] = true := (rfl)
@[simp] theorem ix_int {h : Hh} {x : D} {i : Int} : ixop h x (.int i) = (itemsOf h x).bind fun xs => L2.atI xs i := (rfl)
@[simp] theorem ty_non {h : Hh} : tyName h .non = some "NoneType" := (rfl)
@[simp] theorem ty_bl {h : Hh} {b : Bool} : tyName h (.bl b) = some "bool" := (rfl)
@[simp] theorem ty_int {h : Hh} {b : Int} : tyName h (.int b) = some "int" := (rfl)
@[simp] theorem ty_str {h : Hh} {b : Str} : tyName h (.str b) = some "str" := (rfl)
@[simp] theorem ty_tup {h : Hh} {b : List D} : tyName h (.tup b) = some "tuple" := (rfl)
@[simp] theorem ty_rol {h : Hh} {b : List D} : tyName h (.rol b) = some "list" := (rfl)
theorem ty_obj {h : Hh} {n : Nat} {xs : List D} (e : h[n]? = some (.lst xs)) : tyName h (.obj n) = some "list" := by simp only [tyName, e]
theorem items_obj {h : Hh} {n : Nat} {xs : List D} (e : h[n]? = some (.lst xs)) : itemsOf h (.obj n) = some xs := by simp only [itemsOf, e]
theorem seq_obj' {h : Hh} {n : Nat} {xs : List D} (e : h[n]? = some (.lst xs)) : seqD h (.obj n) = some (xs, [(n, xs)]) := by simp only [seqD, e]
@[simp] theorem atI_nat {α : Type} {xs : List α} {n : Nat} (l : n < xs.length) : L2.atI xs (n : Int) = xs[n]? := by
  unfold L2.atI L2.ixN
  simp [l]
section
variable {α : Type} {a b c d e : α} {xs : List α}
theorem atI_lit {xs : List α} {n : Nat} {x : α} (e : xs[n]? = some x) : L2.atI xs (n : Int) = some x := by
  rw [atI_nat (List.getElem?_eq_some_iff.mp e).1, e]
@[simp] theorem atI_0 : L2.atI (a :: xs) 0 = some a := atI_lit (n := 0) rfl
@[simp] theorem atI_1 : L2.atI (a :: b :: xs) 1 = some b := atI_lit (n := 1) rfl
@[simp] theorem atI_2 : L2.atI (a :: b :: c :: xs) 2 = some c := atI_lit (n := 2) rfl
@[simp] theorem atI_3 : L2.atI (a :: b :: c :: d :: xs) 3 = some d := atI_lit (n := 3) rfl
@[simp] theorem atI_4 : L2.atI (a :: b :: c :: d :: e :: xs) 4 = some e := atI_lit (n := 4) rfl
theorem atI_last {xs : List α} (h : xs ≠ []) : L2.atI xs (-1) = some (xs.getLast h) := by
  unfold L2.atI L2.ixN
  have : xs.length ≠ 0 := fun e => h (List.length_eq_zero_iff.mp e)
  have h1 : (-1 + (xs.length : Int)).toNat = xs.length - 1 := by omega
  have h2 : -(xs.length : Int) ≤ -1 := by omega
  simp [h2, h1, List.getLast_eq_getElem]
end
theorem cmp_eq {h : Hh} {x y : D} : cmpop h .eq x y = eqD h x y := by
  unfold cmpop
  rfl
theorem cmp_ne {h : Hh} {x y : D} : cmpop h .ne x y = (eqD h x y).map (!·) := by
  unfold cmpop
  rfl
@[simp] theorem sz_val : sizeLine = 16777216 := (rfl)
theorem fin_new {h h' : Hh} {d : D} (e : D.lt h.length d = false) : fin h d h' = .ok d h' := by
  unfold fin
  rw [if_neg (by rw [e]; simp)]
end Ev

set_option Elab.async false
set_option linter.all false
set_option maxRecDepth 100000
namespace K67
open PySem Ev
/-- 0 is_integer: 0=value -/
def p_is_integer : Fd := ⟨1, 1, (.cons (.ret (.and (.bi (.isi "int") (.cons (.var 0) .nil)) (.not (.bi (.isi "bool") (.cons (.var 0) .nil)))))
      .nil)⟩
/-- 1 is_between: 0=value 1=low 2=high -/
def p_is_between : Fd := ⟨3, 3, (.cons (.ret (.and (.call 0 (.cons (.var 0) .nil)) (.and (.cmp .ge (.var 0) (.var 1)) (.or (.cmp .is (.var 2) (.lit .non)) (.cmp .le (.var 0) (.var 2))))))
      .nil)⟩
/-- 2 common_divisor: 0=one 1=other -/
def p_common_divisor : Fd := ⟨2, 2, (.cons (.whl (.cmp .gt (.var 1) (.lit (.int (0)))) (.cons (.par [0, 1] (.cons (.var 1) (.cons (.bin .mod (.var 0) (.var 1)) .nil)))
      .nil))
      (.cons (.ret (.var 0))
      .nil))⟩
/-- 3 common_multiple: 0=one 1=other -/
def p_common_multiple : Fd := ⟨2, 2, (.cons (.ret (.bin .mul (.bin .fdiv (.var 0) (.call 2 (.cons (.var 0) (.cons (.var 1) .nil)))) (.var 1)))
      .nil)⟩
/-- 4 is_fraction: 0=value -/
def p_is_fraction : Fd := ⟨1, 1, (.cons (.ite (.or (.not (.bi (.isi "tuple") (.cons (.var 0) .nil))) (.or (.cmp .ne (.bi .len (.cons (.var 0) .nil)) (.lit (.int (2)))) (.or (.not (.call 0 (.cons (.idx (.var 0) (.lit (.int (0)))) .nil))) (.not (.call 1 (.cons (.idx (.var 0) (.lit (.int (1)))) (.cons (.lit (.int (1))) (.cons (.lit .non) .nil)))))))) (.cons (.ret (.lit (.bl false)))
      .nil) .nil)
      (.cons (.ret (.cmp .eq (.call 2 (.cons (.bi .abs (.cons (.idx (.var 0) (.lit (.int (0)))) .nil)) (.cons (.idx (.var 0) (.lit (.int (1)))) .nil))) (.lit (.int (1)))))
      .nil))⟩
/-- 5 is_form: 0=value 1=part -/
def p_is_form : Fd := ⟨1, 2, (.cons (.ite (.or (.not (.bi (.isi "tuple") (.cons (.var 0) .nil))) (.not (.bq .all (.mk (.call 4 (.cons (.var 1) .nil)) (.nm 1) (.seq (.var 0)) .no [1])))) (.cons (.ret (.lit (.bl false)))
      .nil) .nil)
      (.cons (.ret (.or (.cmp .eq (.var 0) (.tup .nil)) (.cmp .ne (.idx (.idx (.var 0) (.neg (.lit (.int (1))))) (.lit (.int (0)))) (.lit (.int (0))))))
      .nil))⟩
/-- 6 over_one: 0=form 1=bottom 2=top 3=low -/
def p_over_one : Fd := ⟨2, 4, (.cons (.ret (.comp (.mk (.bin .mul (.var 2) (.bin .fdiv (.var 1) (.var 3))) (.tp (.cons (.nm 2) (.cons (.nm 3) .nil))) (.seq (.var 0)) .no [2, 3])))
      .nil)⟩
/-- 7 bottom_of: 0=form 1=found 2=top 3=low -/
def p_bottom_of : Fd := ⟨1, 4, (.cons (.asg (.nm 1) (.lit (.int (1))))
      (.cons (.loop (.tp (.cons (.nm 2) (.cons (.nm 3) .nil))) (.seq (.var 0)) (.cons (.asg (.nm 1) (.call 3 (.cons (.var 1) (.cons (.var 3) .nil))))
      .nil))
      (.cons (.ret (.var 1))
      .nil)))⟩
/-- 8 quotient: 0=form 1=place 2=part 3=bottom 4=power 5=top -/
def p_quotient : Fd := ⟨2, 6, (.cons (.par [3, 4, 5] (.cons (.call 7 (.cons (.var 0) .nil)) (.cons (.lit (.int (1))) (.cons (.lit (.int (0))) .nil))))
      (.cons (.loop (.nm 2) (.seq (.call 6 (.cons (.var 0) (.cons (.var 3) .nil)))) (.cons (.par [5, 4] (.cons (.bin .add (.var 5) (.bin .mul (.var 2) (.var 4))) (.cons (.bin .mul (.var 4) (.var 1)) .nil)))
      .nil))
      (.cons (.ret (.tup (.cons (.var 5) (.cons (.var 3) .nil))))
      .nil)))⟩
/-- 9 place_of: 0=first 1=rest 2=period 3=place -/
def p_place_of : Fd := ⟨3, 4, (.cons (.asg (.nm 3) (.bin .add (.bin .mul (.bin .fdiv (.var 0) (.var 2)) (.var 2)) (.var 1)))
      (.cons (.ret (.ife (.cmp .ge (.var 3) (.var 0)) (.var 3) (.bin .add (.var 3) (.var 2))))
      .nil))⟩
/-- 10 tells_integers: 0=form 1=first 2=period 3=step 4=top 5=bottom -/
def p_tells_integers : Fd := ⟨3, 6, (.cons (.loop (.nm 3) (.rng (.cons (.bi .len (.cons (.var 0) .nil)) .nil)) (.cons (.asg (.tp (.cons (.nm 4) (.cons (.nm 5) .nil))) (.call 8 (.cons (.var 0) (.cons (.bin .add (.var 1) (.bin .mul (.var 3) (.var 2))) .nil))))
      (.cons (.ite (.cmp .ne (.bin .mod (.var 4) (.var 5)) (.lit (.int (0)))) (.cons (.ret (.lit (.bl false)))
      .nil) .nil)
      .nil)))
      (.cons (.ret (.lit (.bl true)))
      .nil))⟩
/-- 11 shortest: 0=forms 1=many 2=size -/
def p_shortest : Fd := ⟨1, 3, (.cons (.asg (.nm 1) (.bi .len (.cons (.var 0) .nil)))
      (.cons (.loop (.nm 2) (.rng (.cons (.lit (.int (1))) (.cons (.var 1) .nil))) (.cons (.ite (.and (.cmp .eq (.bin .mod (.var 1) (.var 2)) (.lit (.int (0)))) (.cmp .eq (.slc (.var 0) (.so (.var 2)) .no) (.slc (.var 0) .no (.so (.bin .sub (.var 1) (.var 2)))))) (.cons (.ret (.var 2))
      .nil) .nil)
      .nil))
      (.cons (.ret (.var 1))
      .nil)))⟩
/-- 12 told_at: 0=early 1=forms 2=place 3=top 4=bottom -/
def p_told_at : Fd := ⟨3, 5, (.cons (.ite (.cmp .lt (.var 2) (.bi .len (.cons (.var 0) .nil))) (.cons (.ret (.idx (.var 0) (.var 2)))
      .nil) .nil)
      (.cons (.asg (.tp (.cons (.nm 3) (.cons (.nm 4) .nil))) (.call 8 (.cons (.idx (.var 1) (.bin .mod (.var 2) (.bi .len (.cons (.var 1) .nil)))) (.cons (.var 2) .nil))))
      (.cons (.ret (.bin .fdiv (.var 3) (.var 4)))
      .nil)))⟩
/-- 13 is_told: 0=early 1=forms 2=last 3=rest 4=form 5=number -/
def p_is_told : Fd := ⟨2, 6, (.cons (.ite (.or (.not (.bi (.isi "tuple") (.cons (.var 0) .nil))) (.not (.bq .all (.mk (.call 0 (.cons (.var 5) .nil)) (.nm 5) (.seq (.var 0)) .no [5])))) (.cons (.ret (.lit (.bl false)))
      .nil) .nil)
      (.cons (.ite (.or (.not (.bi (.isi "tuple") (.cons (.var 1) .nil))) (.or (.cmp .eq (.var 1) (.tup .nil)) (.not (.bq .all (.mk (.call 5 (.cons (.var 4) .nil)) (.nm 4) (.seq (.var 1)) .no [4]))))) (.cons (.ret (.lit (.bl false)))
      .nil) .nil)
      (.cons (.loop (.tp (.cons (.nm 3) (.cons (.nm 4) .nil))) (.enm (.var 1)) (.cons (.ite (.or (.cmp .gt (.bi .len (.cons (.var 4) .nil)) (.bin .add (.lit (.int (12))) (.lit (.int (1))))) (.not (.call 10 (.cons (.var 4) (.cons (.call 9 (.cons (.bi .len (.cons (.var 0) .nil)) (.cons (.var 3) (.cons (.bi .len (.cons (.var 1) .nil)) .nil)))) (.cons (.bi .len (.cons (.var 1) .nil)) .nil)))))) (.cons (.ret (.lit (.bl false)))
      .nil) .nil)
      .nil))
      (.cons (.asg (.nm 2) (.bi .len (.cons (.var 0) .nil)))
      (.cons (.whl (.and (.cmp .gt (.var 2) (.lit (.int (0)))) (.call 14 (.cons (.idx (.var 1) (.bin .mod (.bin .sub (.var 2) (.lit (.int (1)))) (.bi .len (.cons (.var 1) .nil)))) (.cons (.bin .sub (.var 2) (.lit (.int (1)))) (.cons (.idx (.var 0) (.bin .sub (.var 2) (.lit (.int (1))))) .nil))))) (.cons (.asg (.nm 2) (.bin .sub (.var 2) (.lit (.int (1)))))
      .nil))
      (.cons (.ret (.cmp .le (.bin .add (.var 2) (.call 11 (.cons (.var 1) .nil))) (.lit (.int (1000)))))
      .nil))))))⟩
/-- 14 quotient_is: 0=form 1=place 2=number 3=top 4=bottom -/
def p_quotient_is : Fd := ⟨3, 5, (.cons (.asg (.tp (.cons (.nm 3) (.cons (.nm 4) .nil))) (.call 8 (.cons (.var 0) (.cons (.var 1) .nil))))
      (.cons (.ret (.cmp .eq (.var 3) (.bin .mul (.var 2) (.var 4))))
      .nil))⟩
/-- 15 stays_at_most: 0=one 1=other 2=first 3=step 4=most 5=bottom 6=found 7=mine 8=theirs 9=less 10=more 11=moved 12=at 13=part -/
def p_stays_at_most : Fd := ⟨4, 14, (.cons (.par [5, 6] (.cons (.call 3 (.cons (.call 7 (.cons (.var 0) .nil)) (.cons (.call 7 (.cons (.var 1) .nil)) .nil))) (.cons (.lst .nil) .nil)))
      (.cons (.par [7, 8] (.cons (.call 6 (.cons (.var 0) (.cons (.var 5) .nil))) (.cons (.call 6 (.cons (.var 1) (.cons (.var 5) .nil))) .nil)))
      (.cons (.asg (.nm 4) (.bi .max (.cons (.bi .len (.cons (.var 7) .nil)) (.cons (.bi .len (.cons (.var 8) .nil)) .nil))))
      (.cons (.par [7, 8] (.cons (.bin .add (.var 7) (.bin .mul (.lst (.cons (.lit (.int (0))) .nil)) (.bin .sub (.var 4) (.bi .len (.cons (.var 7) .nil))))) (.cons (.bin .add (.var 8) (.bin .mul (.lst (.cons (.lit (.int (0))) .nil)) (.bin .sub (.var 4) (.bi .len (.cons (.var 8) .nil))))) .nil)))
      (.cons (.loop (.tp (.cons (.nm 9) (.cons (.nm 10) .nil))) (.seq (.rev (.bi .lzip (.cons (.var 7) (.cons (.var 8) .nil))))) (.cons (.asg (.nm 11) (.bin .add (.comp (.mk (.bin .mul (.var 2) (.var 13)) (.nm 13) (.seq (.var 6)) .no [13])) (.lst (.cons (.lit (.int (0))) .nil))))
      (.cons (.loop (.tp (.cons (.nm 12) (.cons (.nm 13) .nil))) (.enm (.var 6)) (.cons (.augs .add (.var 11) (.bin .add (.var 12) (.lit (.int (1)))) (.bin .mul (.var 3) (.var 13)))
      .nil))
      (.cons (.augs .add (.var 11) (.lit (.int (0))) (.bin .sub (.var 10) (.var 9)))
      (.cons (.asg (.nm 6) (.var 11))
      .nil)))))
      (.cons (.ret (.bq .all (.mk (.cmp .ge (.var 13) (.lit (.int (0)))) (.nm 13) (.seq (.var 6)) .no [13])))
      .nil))))))⟩
/-- 16 at_most_shown: 0=claim 1=certificate 2=early 3=forms 4=others 5=patterns 6=period 7=most 8=rest 9=first 10=place -/
def p_at_most_shown : Fd := ⟨2, 11, (.cons (.asg (.tp (.cons (.nm 2) (.cons (.nm 3) (.cons (.nm 4) (.cons (.nm 5) .nil))))) (.slc (.var 0) (.so (.lit (.int (1)))) .no))
      (.cons (.ite (.or (.not (.call 13 (.cons (.var 2) (.cons (.var 3) .nil)))) (.not (.call 13 (.cons (.var 4) (.cons (.var 5) .nil))))) (.cons (.ret (.lit (.bl false)))
      .nil) .nil)
      (.cons (.par [6, 7] (.cons (.call 3 (.cons (.bi .len (.cons (.var 3) .nil)) (.cons (.bi .len (.cons (.var 5) .nil)) .nil))) (.cons (.bi .max (.cons (.bi .len (.cons (.var 2) .nil)) (.cons (.bi .len (.cons (.var 4) .nil)) .nil))) .nil)))
      (.cons (.ite (.or (.not (.bi (.isi "tuple") (.cons (.var 1) .nil))) (.cmp .ne (.bi .len (.cons (.var 1) .nil)) (.var 6))) (.cons (.ret (.lit (.bl false)))
      .nil) .nil)
      (.cons (.loop (.tp (.cons (.nm 8) (.cons (.nm 9) .nil))) (.enm (.var 1)) (.cons (.ite (.or (.not (.call 1 (.cons (.var 9) (.cons (.var 7) (.cons (.lit (.int (1000))) .nil))))) (.cmp .ne (.bin .mod (.var 9) (.var 6)) (.var 8))) (.cons (.ret (.lit (.bl false)))
      .nil) .nil)
      (.cons (.ite (.not (.call 15 (.cons (.idx (.var 3) (.bin .mod (.var 9) (.bi .len (.cons (.var 3) .nil)))) (.cons (.idx (.var 5) (.bin .mod (.var 9) (.bi .len (.cons (.var 5) .nil)))) (.cons (.var 9) (.cons (.var 6) .nil)))))) (.cons (.ret (.lit (.bl false)))
      .nil) .nil)
      (.cons (.loop (.nm 10) (.rng (.cons (.var 8) (.cons (.var 9) (.cons (.var 6) .nil)))) (.cons (.ite (.cmp .gt (.call 12 (.cons (.var 2) (.cons (.var 3) (.cons (.var 10) .nil)))) (.call 12 (.cons (.var 4) (.cons (.var 5) (.cons (.var 10) .nil))))) (.cons (.ret (.lit (.bl false)))
      .nil) .nil)
      .nil))
      .nil))))
      (.cons (.ret (.lit (.bl true)))
      .nil))))))⟩
/-- 17 accepts: 0=claim 1=certificate -/
def p_accepts : Fd := ⟨2, 2, (.cons (.ite (.or (.not (.bi (.isi "tuple") (.cons (.var 0) .nil))) (.or (.cmp .ne (.bi .len (.cons (.var 0) .nil)) (.lit (.int (5)))) (.not (.bi (.isi "str") (.cons (.idx (.var 0) (.lit (.int (0)))) .nil))))) (.cons (.ret (.lit (.bl false)))
      .nil) .nil)
      (.cons (.ite (.cmp .eq (.idx (.var 0) (.lit (.int (0)))) (.lit (.str ("placed" : Str)))) (.cons .nev
      .nil) .nil)
      (.cons (.ite (.cmp .eq (.idx (.var 0) (.lit (.int (0)))) (.lit (.str ("counts" : Str)))) (.cons .nev
      .nil) .nil)
      (.cons (.ret (.and (.cmp .eq (.idx (.var 0) (.lit (.int (0)))) (.lit (.str ("at most" : Str)))) (.call 16 (.cons (.var 0) (.cons (.var 1) .nil)))))
      .nil))))⟩
/-- 18 _law_purse: 0=_law_script 1=_law_at 2=_law_digits 3=_law_state 4=_law_cell 5=_law_last -/
def f_law_purse : Fd := ⟨2, 6, (.cons (.asg (.tp (.cons (.nm 4) (.cons (.nm 5) .nil))) (.tup (.cons (.lit (.int (0))) (.cons (.lit (.int (0))) .nil))))
      (.cons (.ite (.cmp .ne (.var 0) (.lst .nil)) (.cons (.asg (.nm 5) (.idx (.var 0) (.neg (.lit (.int (1))))))
      .nil) .nil)
      (.cons (.ite (.cmp .lt (.var 1) (.bi .len (.cons (.var 0) .nil))) (.cons (.asg (.nm 4) (.idx (.var 0) (.var 1)))
      .nil) .nil)
      (.cons (.asg (.nm 2) (.ife (.cmp .ge (.var 4) (.bin .pow (.lit (.int (10))) (.lit (.int (18))))) (.bin .sub (.var 4) (.bin .pow (.lit (.int (10))) (.lit (.int (18))))) (.ife (.cmp .lt (.var 4) (.lit (.int (0)))) (.bin .sub (.bin .sub (.lit (.int (0))) (.var 4)) (.lit (.int (1)))) (.lit (.int (0))))))
      (.cons (.asg (.nm 3) (.bin .mod (.bi .int (.cons (.bin .add (.bin .add (.bin .add (.bin .mul (.var 4) (.lit (.int (92821)))) (.bin .mul (.var 5) (.lit (.int (30011))))) (.bin .mul (.var 1) (.lit (.int (7207))))) (.lit (.int (60013)))) .nil)) (.lit (.int (1000000007)))))
      (.cons (.ret (.lst (.cons (.var 2) (.cons (.var 3) (.cons (.var 1) .nil)))))
      .nil))))))⟩
/-- 19 _law_draw: 0=_law_purse_here 1=_law_many 2=_law_state 3=_law_digit -/
def f_law_draw : Fd := ⟨2, 4, (.cons (.asg (.sub (.var 0) (.lit (.int (2)))) (.bin .add (.idx (.var 0) (.lit (.int (2)))) (.lit (.int (1)))))
      (.cons (.asg (.nm 2) (.bi .int (.cons (.idx (.var 0) (.lit (.int (1)))) .nil)))
      (.cons (.asg (.sub (.var 0) (.lit (.int (1)))) (.bin .mod (.bi .int (.cons (.bin .add (.bin .add (.bin .mul (.var 2) (.bin .add (.bin .fdiv (.var 2) (.lit (.int (97)))) (.lit (.int (50023))))) (.bin .mul (.lit (.int (7919))) (.idx (.var 0) (.lit (.int (2)))))) (.lit (.int (1)))) .nil)) (.lit (.int (1000000007)))))
      (.cons (.ite (.cmp .gt (.idx (.var 0) (.lit (.int (0)))) (.lit (.int (0)))) (.cons (.asg (.tp (.cons (.sub (.var 0) (.lit (.int (0)))) (.cons (.nm 3) .nil))) (.bi .divmod (.cons (.idx (.var 0) (.lit (.int (0)))) (.cons (.var 1) .nil))))
      (.cons (.ret (.var 3))
      .nil)) .nil)
      (.cons (.ret (.bin .mod (.bi .int (.cons (.bin .fdiv (.idx (.var 0) (.lit (.int (1)))) (.lit (.int (911)))) .nil)) (.var 1)))
      .nil)))))⟩
/-- 20 _law_asked: 0=_law_promise_here 1=_law_paper_here 2=_law_due 3=_law_before 4=_law_told_here -/
def f_law_asked : Fd := ⟨3, 5, (.cons (.asg (.nm 3) (.bi .repr (.cons (.lst (.cons (.var 0) (.cons (.var 1) .nil))) .nil)))
      (.cons (.asg (.nm 4) (.lst (.cons (.call 17 (.cons (.var 0) (.cons (.var 1) .nil))) (.cons (.callk 17 [1, 0] (.cons (.var 1) (.cons (.var 0) .nil))) .nil))))
      (.cons (.ret (.and (.cmp .eq (.var 4) (.lst (.cons (.var 2) (.cons (.var 2) .nil)))) (.and (.bi (.isi "bool") (.cons (.idx (.var 4) (.lit (.int (0)))) .nil)) (.cmp .eq (.bi .repr (.cons (.lst (.cons (.var 0) (.cons (.var 1) .nil))) .nil)) (.var 3)))))
      .nil)))⟩
/-- 21 _law_lowest: 0=_law_top 1=_law_bottom 2=_law_one_here 3=_law_two_here -/
def f_law_lowest : Fd := ⟨2, 4, (.cons (.par [2, 3] (.cons (.bi .abs (.cons (.var 0) .nil)) (.cons (.var 1) .nil)))
      (.cons (.whl (.cmp .gt (.var 3) (.lit (.int (0)))) (.cons (.par [2, 3] (.cons (.var 3) (.cons (.bin .mod (.bi .int (.cons (.var 2) .nil)) (.var 3)) .nil)))
      .nil))
      (.cons (.ret (.tup (.cons (.bin .fdiv (.var 0) (.var 2)) (.cons (.bin .fdiv (.var 1) (.var 2)) .nil))))
      .nil)))⟩
/-- 22 _law_sixths: 0=_law_parts -/
def f_law_sixths : Fd := ⟨1, 1, (.cons (.ret (.lst (.cons (.bin .mul (.lit (.int (6))) (.idx (.var 0) (.lit (.int (0))))) (.cons (.bin .add (.bin .sub (.bin .mul (.lit (.int (6))) (.idx (.var 0) (.lit (.int (1))))) (.bin .mul (.lit (.int (3))) (.idx (.var 0) (.lit (.int (2)))))) (.bin .mul (.lit (.int (2))) (.idx (.var 0) (.lit (.int (3)))))) (.cons (.bin .sub (.bin .mul (.lit (.int (3))) (.idx (.var 0) (.lit (.int (2))))) (.bin .mul (.lit (.int (3))) (.idx (.var 0) (.lit (.int (3)))))) (.cons (.idx (.var 0) (.lit (.int (3)))) .nil))))))
      .nil)⟩
/-- 23 _law_form_of: 0=_law_parts 1=_law_rows_here 2=_law_top -/
def f_law_form_of : Fd := ⟨1, 3, (.cons (.asg (.nm 1) (.call 22 (.cons (.var 0) .nil)))
      (.cons (.whl (.and (.cmp .ne (.var 1) (.lst .nil)) (.cmp .eq (.idx (.var 1) (.neg (.lit (.int (1))))) (.lit (.int (0))))) (.cons (.asg (.nm 1) (.slc (.var 1) .no (.so (.neg (.lit (.int (1)))))))
      .nil))
      (.cons (.ret (.bq .tuple (.mk (.call 21 (.cons (.var 2) (.cons (.lit (.int (6))) .nil))) (.nm 2) (.seq (.var 1)) .no [2])))
      .nil)))⟩
/-- 24 _law_told: 0=_law_lead 1=_law_sums 2=_law_n 3=_law_ways 4=_law_part 5=_law_way -/
def f_law_told : Fd := ⟨3, 6, (.cons (.ite (.cmp .lt (.var 2) (.bi .len (.cons (.var 0) .nil))) (.cons (.ret (.idx (.var 0) (.var 2)))
      .nil) .nil)
      (.cons (.asg (.nm 3) (.lst (.cons (.lit (.int (1))) (.cons (.var 2) (.cons (.bin .fdiv (.bin .mul (.var 2) (.bin .sub (.var 2) (.lit (.int (1))))) (.lit (.int (2)))) (.cons (.bin .fdiv (.bin .mul (.bin .mul (.var 2) (.bin .sub (.var 2) (.lit (.int (1))))) (.bin .sub (.var 2) (.lit (.int (2))))) (.lit (.int (6)))) .nil))))))
      (.cons (.ret (.bq .sum (.mk (.bin .mul (.var 4) (.var 5)) (.tp (.cons (.nm 4) (.cons (.nm 5) .nil))) (.zip (.idx (.var 1) (.bin .mod (.bi .int (.cons (.var 2) .nil)) (.bi .len (.cons (.var 1) .nil)))) (.var 3)) .no [4, 5])))
      .nil)))⟩
/-- 25 _law_period: 0=_law_mine 1=_law_theirs 2=_law_n -/
def f_law_period : Fd := ⟨2, 3, (.cons (.ret (.bq .min (.mk (.var 2) (.nm 2) (.rng (.cons (.lit (.int (1))) (.cons (.lit (.int (37))) .nil))) (.so (.and (.cmp .eq (.bin .mod (.bi .int (.cons (.var 2) .nil)) (.bi .len (.cons (.idx (.var 0) (.lit (.int (1)))) .nil))) (.lit (.int (0)))) (.cmp .eq (.bin .mod (.bi .int (.cons (.var 2) .nil)) (.bi .len (.cons (.idx (.var 1) (.lit (.int (1)))) .nil))) (.lit (.int (0)))))) [2])))
      .nil)⟩
/-- 26 _law_starts_well: 0=_law_mine 1=_law_theirs 2=_law_first 3=_law_period_here 4=_law_less 5=_law_more 6=_law_found 7=_law_at 8=_law_again 9=_law_power 10=_law_part -/
def f_law_starts_well : Fd := ⟨4, 11, (.cons (.asg (.nm 4) (.call 22 (.cons (.idx (.idx (.var 0) (.lit (.int (1)))) (.bin .mod (.bi .int (.cons (.var 2) .nil)) (.bi .len (.cons (.idx (.var 0) (.lit (.int (1)))) .nil)))) .nil)))
      (.cons (.asg (.nm 5) (.call 22 (.cons (.idx (.idx (.var 1) (.lit (.int (1)))) (.bin .mod (.bi .int (.cons (.var 2) .nil)) (.bi .len (.cons (.idx (.var 1) (.lit (.int (1)))) .nil)))) .nil)))
      (.cons (.asg (.nm 6) (.lst .nil))
      (.cons (.loop (.nm 7) (.seq (.lst (.cons (.lit (.int (3))) (.cons (.lit (.int (2))) (.cons (.lit (.int (1))) (.cons (.lit (.int (0))) .nil)))))) (.cons (.asg (.nm 8) (.bin .add (.comp (.mk (.bin .mul (.var 2) (.var 10)) (.nm 10) (.seq (.var 6)) .no [10])) (.lst (.cons (.lit (.int (0))) .nil))))
      (.cons (.loop (.nm 9) (.rng (.cons (.bi .len (.cons (.var 6) .nil)) .nil)) (.cons (.asg (.sub (.var 8) (.bin .add (.var 9) (.lit (.int (1))))) (.bin .add (.idx (.var 8) (.bin .add (.var 9) (.lit (.int (1))))) (.bin .mul (.var 3) (.idx (.var 6) (.var 9)))))
      .nil))
      (.cons (.asg (.sub (.var 8) (.lit (.int (0)))) (.bin .sub (.bin .add (.idx (.var 8) (.lit (.int (0)))) (.idx (.var 5) (.var 7))) (.idx (.var 4) (.var 7))))
      (.cons (.asg (.nm 6) (.var 8))
      .nil)))))
      (.cons (.ret (.cmp .ge (.bi .min (.cons (.var 6) .nil)) (.lit (.int (0)))))
      .nil)))))⟩
/-- 27 _law_start_holds: 0=_law_mine 1=_law_theirs 2=_law_rest 3=_law_first 4=_law_period_here 5=_law_early_here 6=_law_n -/
def f_law_start_holds : Fd := ⟨5, 7, (.cons (.ite (.or (.not (.bi (.isi "int") (.cons (.var 3) .nil))) (.bi (.isi "bool") (.cons (.var 3) .nil))) (.cons (.ret (.lit (.bl false)))
      .nil) .nil)
      (.cons (.ite (.or (.not (.cmp2 .le .lt (.lit (.int (0))) (.var 3) (.lit (.int (1001))))) (.cmp .ne (.bin .mod (.bi .int (.cons (.var 3) .nil)) (.var 4)) (.var 2))) (.cons (.ret (.lit (.bl false)))
      .nil) .nil)
      (.cons (.ite (.or (.cmp .lt (.var 3) (.bi .len (.cons (.idx (.var 0) (.lit (.int (0)))) .nil))) (.or (.cmp .lt (.var 3) (.bi .len (.cons (.idx (.var 1) (.lit (.int (0)))) .nil))) (.not (.call 26 (.cons (.var 0) (.cons (.var 1) (.cons (.var 3) (.cons (.var 4) .nil)))))))) (.cons (.ret (.lit (.bl false)))
      .nil) .nil)
      (.cons (.asg (.nm 5) (.comp (.mk (.var 6) (.nm 6) (.rng (.cons (.var 2) (.cons (.var 3) (.cons (.var 4) .nil)))) .no [6])))
      (.cons (.ret (.bq .all (.mk (.cmp .le (.call 24 (.cons (.idx (.var 0) (.lit (.int (0)))) (.cons (.idx (.var 0) (.lit (.int (1)))) (.cons (.var 6) .nil)))) (.call 24 (.cons (.idx (.var 1) (.lit (.int (0)))) (.cons (.idx (.var 1) (.lit (.int (1)))) (.cons (.var 6) .nil))))) (.nm 6) (.seq (.var 5)) .no [6])))
      .nil)))))⟩
/-- 28 _law_holds: 0=_law_mine 1=_law_theirs 2=_law_paper_here 3=_law_period_here 4=_law_rest -/
def f_law_holds : Fd := ⟨3, 5, (.cons (.asg (.nm 3) (.call 25 (.cons (.var 0) (.cons (.var 1) .nil))))
      (.cons (.ite (.or (.not (.bi (.isi "tuple") (.cons (.var 2) .nil))) (.cmp .ne (.bi .len (.cons (.var 2) .nil)) (.var 3))) (.cons (.ret (.lit (.bl false)))
      .nil) .nil)
      (.cons (.ret (.bq .all (.mk (.call 27 (.cons (.var 0) (.cons (.var 1) (.cons (.var 4) (.cons (.idx (.var 2) (.var 4)) (.cons (.var 3) .nil)))))) (.nm 4) (.rng (.cons (.var 3) .nil)) .no [4])))
      .nil)))⟩
/-- 29 _law_paper: 0=_law_purse_here 1=_law_mine 2=_law_theirs 3=_law_rest 4=_law_period_here 5=_law_found 6=_law_some 7=_law_n -/
def f_law_paper : Fd := ⟨3, 8, (.cons (.asg (.tp (.cons (.nm 4) (.cons (.nm 5) .nil))) (.tup (.cons (.call 25 (.cons (.var 1) (.cons (.var 2) .nil))) (.cons (.lst .nil) .nil))))
      (.cons (.loop (.nm 3) (.rng (.cons (.var 4) .nil)) (.cons (.asg (.nm 6) (.comp (.mk (.var 7) (.nm 7) (.rng (.cons (.var 3) (.cons (.lit (.int (80))) (.cons (.var 4) .nil)))) (.so (.call 27 (.cons (.var 1) (.cons (.var 2) (.cons (.var 3) (.cons (.var 7) (.cons (.var 4) .nil))))))) [7])))
      (.cons (.app (.var 5) (.ife (.cmp .ne (.var 6) (.lst .nil)) (.idx (.var 6) (.lit (.int (0)))) (.bin .add (.var 3) (.bin .mul (.var 4) (.call 19 (.cons (.var 0) (.cons (.lit (.int (20))) .nil)))))))
      .nil)))
      (.cons (.ret (.bi .tuple (.cons (.var 5) .nil)))
      .nil)))⟩
/-- 30 _law_bent_paper: 0=_law_purse_here 1=_law_mine 2=_law_theirs 3=_law_paper_here 4=_law_some 5=_law_at 6=_law_way 7=_law_period_here 8=_law_old 9=_law_top -/
def f_law_bent_paper : Fd := ⟨4, 10, (.cons (.par [5, 6, 7] (.cons (.call 19 (.cons (.var 0) (.cons (.bi .len (.cons (.var 3) .nil)) .nil))) (.cons (.call 19 (.cons (.var 0) (.cons (.lit (.int (10))) .nil))) (.cons (.bi .len (.cons (.var 3) .nil)) .nil))))
      (.cons (.ite (.cmp .lt (.var 6) (.lit (.int (2)))) (.cons (.asg (.nm 4) (.lst (.cons (.bi .list (.cons (.var 3) .nil)) (.cons (.slc (.var 3) .no (.so (.neg (.lit (.int (1)))))) (.cons (.bin .add (.var 3) (.slc (.var 3) .no (.so (.lit (.int (1)))))) (.cons (.tup .nil) (.cons (.lit .non) (.cons (.rev (.var 3)) (.cons (.tup (.cons (.var 3) .nil)) (.cons (.lit (.int (0))) .nil))))))))))
      (.cons (.ret (.idx (.var 4) (.call 19 (.cons (.var 0) (.cons (.lit (.int (8))) .nil)))))
      .nil)) .nil)
      (.cons (.par [8, 9] (.cons (.idx (.var 3) (.var 5)) (.cons (.bin .add (.var 5) (.bin .mul (.bin .fdiv (.bin .sub (.lit (.int (1000))) (.var 5)) (.var 7)) (.var 7))) .nil)))
      (.cons (.asg (.nm 4) (.lst (.cons (.bin .add (.var 8) (.var 7)) (.cons (.bin .sub (.var 8) (.var 7)) (.cons (.bin .add (.var 8) (.lit (.int (1)))) (.cons (.var 9) (.cons (.bin .add (.var 9) (.var 7)) (.cons (.neg (.lit (.int (1)))) (.cons (.lit (.bl true)) (.cons (.lit .non) (.cons (.bi .str (.cons (.var 8) .nil)) (.cons (.bin .add (.var 8) (.bin .mul (.lit (.int (2))) (.var 7))) (.cons (.var 8) .nil)))))))))))))
      (.cons (.ret (.bin .add (.bin .add (.slc (.var 3) .no (.so (.var 5))) (.tup (.cons (.idx (.var 4) (.call 19 (.cons (.var 0) (.cons (.lit (.int (11))) .nil)))) .nil))) (.slc (.var 3) (.so (.bin .add (.var 5) (.lit (.int (1))))) .no)))
      .nil)))))⟩
/-- 31 _law_rows: 0=_law_purse_here 1=_law_many 2=_law_found 3=_law_turn 4=_law_row -/
def f_law_rows : Fd := ⟨2, 5, (.cons (.asg (.nm 2) (.lst .nil))
      (.cons (.loop (.nm 3) (.rng (.cons (.var 1) .nil)) (.cons (.asg (.nm 4) (.lst (.cons (.bin .sub (.call 19 (.cons (.var 0) (.cons (.lit (.int (30))) .nil))) (.lit (.int (8)))) (.cons (.bin .sub (.call 19 (.cons (.var 0) (.cons (.lit (.int (12))) .nil))) (.lit (.int (4)))) (.cons (.bin .sub (.call 19 (.cons (.var 0) (.cons (.lit (.int (5))) .nil))) (.lit (.int (1)))) .nil)))))
      (.cons (.app (.var 2) (.bin .add (.var 4) (.lst (.cons (.call 19 (.cons (.var 0) (.cons (.lit (.int (2))) .nil))) .nil))))
      .nil)))
      (.cons (.ret (.var 2))
      .nil)))⟩
/-- 32 _law_pair: 0=_law_purse_here 1=_law_sums 2=_law_lead 3=_law_twice 4=_law_more 5=_law_again 6=_law_turn 7=_law_row 8=_law_part 9=_law_value -/
def f_law_pair : Fd := ⟨1, 10, (.cons (.asg (.nm 1) (.call 31 (.cons (.var 0) (.cons (.bin .add (.lit (.int (1))) (.call 19 (.cons (.var 0) (.cons (.lit (.int (3))) .nil)))) .nil))))
      (.cons (.asg (.nm 2) (.comp (.mk (.bin .sub (.call 19 (.cons (.var 0) (.cons (.lit (.int (30))) .nil))) (.lit (.int (5)))) (.nm 6) (.rng (.cons (.call 19 (.cons (.var 0) (.cons (.lit (.int (4))) .nil))) .nil)) .no [6])))
      (.cons (.ite (.cmp .gt (.call 19 (.cons (.var 0) (.cons (.lit (.int (3))) .nil))) (.lit (.int (0)))) (.cons (.asg (.nm 4) (.comp (.mk (.comp (.mk (.bin .add (.var 8) (.call 19 (.cons (.var 0) (.cons (.lit (.int (3))) .nil)))) (.nm 8) (.seq (.var 7)) .no [8])) (.nm 7) (.seq (.var 1)) .no [7])))
      (.cons (.asg (.nm 5) (.lst (.cons (.comp (.mk (.bin .add (.var 9) (.call 19 (.cons (.var 0) (.cons (.lit (.int (3))) .nil)))) (.nm 9) (.seq (.var 2)) .no [9])) (.cons (.var 4) .nil))))
      (.cons (.asg (.sub (.idx (.idx (.var 5) (.lit (.int (1)))) (.lit (.int (0)))) (.lit (.int (1)))) (.bin .sub (.idx (.idx (.idx (.var 5) (.lit (.int (1)))) (.lit (.int (0)))) (.lit (.int (1)))) (.call 19 (.cons (.var 0) (.cons (.lit (.int (6))) .nil)))))
      .nil))) (.cons (.asg (.nm 5) (.lst (.cons (.comp (.mk (.call 19 (.cons (.var 0) (.cons (.lit (.int (30))) .nil))) (.nm 6) (.rng (.cons (.call 19 (.cons (.var 0) (.cons (.lit (.int (4))) .nil))) .nil)) .no [6])) .nil)))
      (.cons (.app (.var 5) (.call 31 (.cons (.var 0) (.cons (.bin .add (.lit (.int (1))) (.call 19 (.cons (.var 0) (.cons (.lit (.int (3))) .nil)))) .nil))))
      .nil)))
      (.cons (.asg (.nm 3) (.bin .add (.lit (.int (1))) (.call 19 (.cons (.var 0) (.cons (.lit (.int (2))) .nil)))))
      (.cons (.ret (.lst (.cons (.lst (.cons (.var 2) (.cons (.bin .mul (.var 1) (.var 3)) .nil))) (.cons (.var 5) .nil))))
      .nil)))))⟩
/-- 33 _law_promise: 0=_law_mine 1=_law_theirs 2=_law_rows_here 3=_law_some 4=_law_parts -/
def f_law_promise : Fd := ⟨2, 5, (.cons (.asg (.nm 2) (.comp (.mk (.tup (.cons (.bi .tuple (.cons (.idx (.var 3) (.lit (.int (0)))) .nil)) (.cons (.bq .tuple (.mk (.call 23 (.cons (.var 4) .nil)) (.nm 4) (.seq (.idx (.var 3) (.lit (.int (1))))) .no [4])) .nil))) (.nm 3) (.seq (.lst (.cons (.var 0) (.cons (.var 1) .nil)))) .no [3])))
      (.cons (.ret (.bin .add (.bin .add (.tup (.cons (.lit (.str ("at most" : Str))) .nil)) (.idx (.var 2) (.lit (.int (0))))) (.idx (.var 2) (.lit (.int (1))))))
      .nil))⟩
/-- 34 _law_bent: 0=_law_purse_here 1=_law_promise_here 2=_law_last 3=_law_odd 4=_law_at 5=_law_pick -/
def f_law_bent : Fd := ⟨2, 6, (.cons (.par [4, 5] (.cons (.bin .add (.lit (.int (1))) (.call 19 (.cons (.var 0) (.cons (.lit (.int (4))) .nil)))) (.cons (.call 19 (.cons (.var 0) (.cons (.lit (.int (8))) .nil))) .nil)))
      (.cons (.asg (.nm 2) (.ife (.cmp .inn (.var 4) (.lst (.cons (.lit (.int (2))) (.cons (.lit (.int (4))) .nil)))) (.tup (.cons (.tup (.cons (.lit (.int (1))) (.cons (.lit (.int (2))) .nil))) .nil)) (.lit (.bl true))))
      (.cons (.asg (.nm 3) (.lst (.cons (.lit .non) (.cons (.lit (.int (0))) (.cons (.bi .list (.cons (.idx (.var 1) (.var 4)) .nil)) (.cons (.lit (.str ("" : Str))) (.cons (.tup (.cons (.lit .non) .nil)) (.cons (.tup (.cons (.tup (.cons (.lit (.int (1))) (.cons (.lit (.int (2))) .nil))) .nil)) (.cons (.bin .add (.idx (.var 1) (.var 4)) (.tup (.cons (.var 2) .nil))) .nil)))))))))
      (.cons (.ite (.cmp .eq (.var 5) (.lit (.int (7)))) (.cons (.ret (.idx (.lst (.cons (.slc (.var 1) .no (.so (.lit (.int (4))))) (.cons (.bin .add (.var 1) (.tup (.cons (.tup .nil) .nil))) (.cons (.bin .add (.tup (.cons (.lit (.str ("at  most" : Str))) .nil)) (.slc (.var 1) (.so (.lit (.int (1)))) .no)) (.cons (.bi .list (.cons (.var 1) .nil)) .nil))))) (.bin .sub (.var 4) (.lit (.int (1))))))
      .nil) .nil)
      (.cons (.ret (.bin .add (.bin .add (.slc (.var 1) .no (.so (.var 4))) (.tup (.cons (.idx (.var 3) (.var 5)) .nil))) (.slc (.var 1) (.so (.bin .add (.var 4) (.lit (.int (1))))) .no)))
      .nil)))))⟩
/-- 35 _law_right: 0=_law_purse_here 1=_law_turn 2=_law_turned 3=_law_mine 4=_law_theirs 5=_law_promise_here 6=_law_paper_here 7=_law_bent_here -/
def f_law_right : Fd := ⟨1, 8, (.cons (.asg (.tp (.cons (.nm 3) (.cons (.nm 4) .nil))) (.call 32 (.cons (.var 0) .nil)))
      (.cons (.par [5, 6] (.cons (.call 33 (.cons (.var 3) (.cons (.var 4) .nil))) (.cons (.call 29 (.cons (.var 0) (.cons (.var 3) (.cons (.var 4) .nil)))) .nil)))
      (.cons (.ite (.not (.call 20 (.cons (.var 5) (.cons (.var 6) (.cons (.call 28 (.cons (.var 3) (.cons (.var 4) (.cons (.var 6) .nil)))) .nil))))) (.cons (.ret (.lit (.bl false)))
      .nil) .nil)
      (.cons (.loop (.nm 1) (.rng (.cons (.lit (.int (6))) .nil)) (.cons (.asg (.nm 7) (.call 30 (.cons (.var 0) (.cons (.var 3) (.cons (.var 4) (.cons (.var 6) .nil))))))
      (.cons (.ite (.not (.call 20 (.cons (.var 5) (.cons (.var 7) (.cons (.call 28 (.cons (.var 3) (.cons (.var 4) (.cons (.var 7) .nil)))) .nil))))) (.cons (.ret (.lit (.bl false)))
      .nil) .nil)
      (.cons (.ite (.not (.call 20 (.cons (.call 34 (.cons (.var 0) (.cons (.var 5) .nil))) (.cons (.var 6) (.cons (.lit (.bl false)) .nil))))) (.cons (.ret (.lit (.bl false)))
      .nil) .nil)
      .nil))))
      (.cons (.asg (.nm 2) (.call 29 (.cons (.var 0) (.cons (.var 4) (.cons (.var 3) .nil)))))
      (.cons (.ret (.call 20 (.cons (.call 33 (.cons (.var 4) (.cons (.var 3) .nil))) (.cons (.var 2) (.cons (.call 28 (.cons (.var 4) (.cons (.var 3) (.cons (.var 2) .nil)))) .nil)))))
      .nil))))))⟩
/-- 36 law: 0=_law_script 1=_law_at -/
def p_law : Fd := ⟨1, 2, (.cons (.loop (.nm 1) (.rng (.cons (.bi .max (.cons (.lit (.int (2))) (.cons (.bi .min (.cons (.bi .len (.cons (.var 0) .nil)) (.cons (.lit (.int (3))) .nil))) .nil))) .nil)) (.cons (.ite (.not (.call 35 (.cons (.call 18 (.cons (.var 0) (.cons (.var 1) .nil))) .nil))) (.cons (.ret (.lit (.bl false)))
      .nil) .nil)
      .nil))
      (.cons (.ret (.lit (.bl true)))
      .nil))⟩
def fds : List Fd := [p_is_integer, p_is_between, p_common_divisor, p_common_multiple, p_is_fraction, p_is_form, p_over_one, p_bottom_of, p_quotient, p_place_of, p_tells_integers, p_shortest, p_told_at, p_is_told, p_quotient_is, p_stays_at_most, p_at_most_shown, p_accepts, f_law_purse, f_law_draw, f_law_asked, f_law_lowest, f_law_sixths, f_law_form_of, f_law_told, f_law_period, f_law_starts_well, f_law_start_holds, f_law_holds, f_law_paper, f_law_bent_paper, f_law_rows, f_law_pair, f_law_promise, f_law_bent, f_law_right, p_law]
def P : Nat → Option Fd := fun i => fds[i]?
end K67

set_option Elab.async false
set_option linter.all false
set_option maxRecDepth 100000
set_option maxHeartbeats 4000000
namespace K67
open PySem Ev

def isI : D → Bool
  | .int _ => true
  | _ => false
theorem s_is_integer {w k : Nat} {h : Hh} {d : D} (hd : (tyName h d).isSome = true) : callF P w (k + 1) 0 [d] h = .ok (.bl (isI d)) h := by
  refine call_pure (fd := p_is_integer) rfl rfl rfl ?_
  cases d with
  | obj n =>
    simp only [tyName] at hd
    split at hd
    · rename_i e
      simp [p_is_integer, ty_obj e, isI]
    · cases hd
  | _ => simp [p_is_integer, isI]
/-- at least lo, and at most hi where there is one -/
def btw (lo : Int) (hi : Option Int) : D → Bool
  | .int i => decide (lo ≤ i) && (match hi with
    | none => true
    | some m => decide (i ≤ m))
  | _ => false
def hiD : Option Int → D
  | none => .non
  | some m => .int m
theorem s_is_between {w k : Nat} {h : Hh} {d : D} {lo : Int} {hi : Option Int} (hd : (tyName h d).isSome = true) : callF P w (k + 2) 1 [d, .int lo, hiD hi] h = .ok (.bl (btw lo hi d)) h := by
  refine call_pure (fd := p_is_between) rfl rfl rfl ?_
  have e := s_is_integer (w := w) (k := k) hd
  cases d with
  | int i =>
    by_cases c : lo ≤ i <;> cases hi with
    | none => simp [p_is_between, e, isI, btw, hiD, c]
    | some m => simp [p_is_between, e, isI, btw, hiD, c]
  | _ => simp [p_is_between, e, isI, btw]

/-! ### common divisors -/
theorem gcd_step (a b : Int) (hb : 0 < b) : Int.gcd b (a % b) = Int.gcd a b := by
  have e := Int.mul_ediv_add_emod a b
  apply Nat.dvd_antisymm
  · refine Int.dvd_gcd ?_ (Int.gcd_dvd_left b (a % b))
    rw [← e]
    exact Int.dvd_add (Int.dvd_trans (by rw [e]; exact Int.gcd_dvd_left b (a % b)) (Int.dvd_mul_right _ _)) (by rw [e]; exact Int.gcd_dvd_right b (a % b))
  · refine Int.dvd_gcd (Int.gcd_dvd_right a b) ?_
    have e2 : a % b = a - b * (a / b) := by omega
    rw [e2]
    exact Int.dvd_sub (Int.gcd_dvd_left a b) (Int.dvd_trans (Int.gcd_dvd_right a b) (Int.dvd_mul_right _ _))
theorem s_gcd {k : Nat} {h : Hh} {a b : Int} (ha : 0 ≤ a) (hb : 0 ≤ b) (hw : b < 100) : callF P 100 (k + 1) 2 [.int a, .int b] h = .ok (.int (Int.gcd a b)) h := by
  refine call_pure (fd := p_common_divisor) rfl rfl rfl ?_
  simp only [p_common_divisor, ent, exSs, exS, ok_bind]
  refine while_ok (fun m σ h' => h' = h ∧ ∃ x y : Int, 0 ≤ x ∧ 0 ≤ y ∧ σ = [some (.int x), some (.int y)] ∧ (Int.gcd x y : Int) = Int.gcd a b ∧ m = y.toNat) ?_ 100 b.toNat _ h (by omega) ⟨rfl, a, b, ha, hb, rfl, rfl, rfl⟩
  rintro m σ h' ⟨rfl, x, y, hx, hy, rfl, e, rfl⟩
  by_cases c : 0 < y
  · have h1 := Int.emod_nonneg x (show y ≠ 0 by omega)
    have h2 := Int.emod_lt_of_pos x c
    simp [evE, evEs, getV, c, exSs, exS, binop, setAll]
    refine ⟨(x % y).toNat, by omega, y, by omega, x % y, by omega, ⟨rfl, rfl⟩, ?_, rfl⟩
    rw [gcd_step x y c]; exact e
  · have : y = 0 := by omega
    subst this
    simp [evE, evEs, getV, exSs, exS]
    rw [← e]
    simp [Int.natAbs_of_nonneg hx]

def lcmI (a b : Int) : Int := a / (Int.gcd a b : Int) * b
theorem gcd_pos' {a b : Int} (hb : 0 < b) : 0 < (Int.gcd a b : Int) := by
  have := Int.gcd_pos_of_ne_zero_right a (show b ≠ 0 by omega)
  omega
theorem s_lcm {k : Nat} {h : Hh} {a b : Int} (ha : 0 ≤ a) (hb : 1 ≤ b) (hw : b < 100) : callF P 100 (k + 2) 3 [.int a, .int b] h = .ok (.int (lcmI a b)) h := by
  refine call_pure (fd := p_common_multiple) rfl rfl rfl ?_
  have e := s_gcd (k := k) (h := h) ha (show 0 ≤ b by omega) hw
  have h1 := gcd_pos' (a := a) (show 0 < b by omega)
  have h2 := Int.gcd_le_right a (show 0 < b by omega)
  simp [p_common_multiple, e, bin_fdiv h1 (show (Int.gcd a b : Int) < 1073741824 by omega), bin_mul_r (show -(2 ^ 64) < b ∧ b < 2 ^ 64 by omega), lcmI]
/-- a fraction in lowest terms -/
def isFr : D → Bool
  | .tup [.int t, .int b] => decide (1 ≤ b) && decide (Int.gcd t b = 1)
  | _ => false
theorem s_is_fraction {k : Nat} {h : Hh} {d : D} (hd : D.lt 0 d = true) (hw : ∀ t b, d = .tup [.int t, .int b] → b < 100) : callF P 100 (k + 3) 4 [d] h = .ok (.bl (isFr d)) h := by
  refine call_pure (fd := p_is_fraction) rfl rfl rfl ?_
  have T : ∀ xs : List D, xs.length ≠ 2 → isFr (.tup xs) = false := by
    intro xs hx
    unfold isFr
    split
    · rename_i e; cases e; exact absurd rfl hx
    · rfl
  cases d with
  | tup xs =>
    by_cases hl : xs.length = 2
    · match xs, hl with
      | [x, y], _ =>
        have hd : (D.lt 0 x && (D.lt 0 y && true)) = true := hd
        simp only [Bool.and_eq_true, and_true] at hd
        have e1 := s_is_integer (w := 100) (k := k + 1) (h := h) (tyName_lt hd.1)
        have e2 : callF P 100 (k + 2) 1 [y, .int 1, .non] h = .ok (.bl (btw 1 none y)) h := s_is_between (hi := none) (tyName_lt hd.2)
        have hx : ∀ t : Int, (0 ≤ (if t < 0 then -t else t)) ∧ Int.gcd (if t < 0 then -t else t) = Int.gcd t := by
          intro t
          constructor
          · split <;> omega
          · funext b
            split <;> simp
        cases x with
        | int t =>
          cases y with
          | int b =>
            by_cases c : 1 ≤ b
            · have e4 := s_gcd (k := k + 1) (h := h) (hx t).1 (show 0 ≤ b by omega) (hw t b rfl)
              rw [(hx t).2] at e4
              simp [p_is_fraction, isFr, e1, e2, isI, btw, c, e4]
              omega
            · simp [p_is_fraction, isFr, e1, e2, hiD, isI, btw, c]
          | _ => simp [p_is_fraction, isFr, e1, e2, hiD, isI, btw]
        | _ => simp [p_is_fraction, isFr, e1, isI]
    · have c : ¬ ((xs.length : Int) = 2) := by omega
      simp [p_is_fraction, c, T xs hl]
  | obj n => simp [D.lt] at hd
  | _ => simp [p_is_fraction, isFr]

/-! ### forms -/
abbrev Fr := Int × Int
def frD (p : Fr) : D := .tup [.int p.1, .int p.2]
def fmD (f : List Fr) : D := .tup (f.map frD)
def fsD (fs : List (List Fr)) : D := .tup (fs.map fmD)
/-- what a form is -/
def isFm : D → Bool
  | .tup xs => xs.all isFr && (match xs.getLast? with
    | some (.tup (.int t :: _)) => decide (t ≠ 0)
    | some _ => false
    | none => true)
  | _ => false
theorem toBools_map (xs : List D) (g : D → Bool) : toBools (xs.map fun x => .bl (g x)) = some (xs.map g) := by
  induction xs with
  | nil => rfl
  | cons x xs ih => simp [toBools, ih]
theorem biL_all (xs : List D) (g : D → Bool) (h : Hh) : biL .all (xs.map fun x => .bl (g x)) h = .ok (.bl (xs.all g)) h := by
  simp only [biL, toBools_map]
  simp [List.all_map]
theorem lts_mem {n : Nat} : ∀ {xs : List D} {x : D}, D.lts n xs = true → x ∈ xs → D.lt n x = true
  | [], x, _, m => by cases m
  | y :: xs, x, l, m => by
    have l : (D.lt n y && D.lts n xs) = true := l
    simp only [Bool.and_eq_true] at l
    rcases List.mem_cons.mp m with rfl | m
    · exact l.1
    · exact lts_mem l.2 m
theorem s_is_form {k : Nat} {h : Hh} {d : D} (hd : D.lt 0 d = true) (hn : ∀ xs, d = .tup xs → xs.length ≤ 16777216) (hc : ∀ xs, d = .tup xs → (∀ x ∈ xs, isFr x = true) → cln 3 d = true) (hw : ∀ xs, d = .tup xs → ∀ t b, .tup [.int t, .int b] ∈ xs → b < 100) : callF P 100 (k + 4) 5 [d] h = .ok (.bl (isFm d)) h := by
  refine call_pure (fd := p_is_form) rfl rfl rfl ?_
  cases d with
  | tup xs =>
    have e1 : ∀ x ∈ xs, ∀ h : Hh, callF P 100 (k + 3) 4 [x] h = .ok (.bl (isFr x)) h := fun x m h => s_is_fraction (lts_mem (show D.lts 0 xs = true from hd) m) fun t b e => hw xs rfl t b (e ▸ m)
    have hn := hn xs rfl
    simp [p_is_form, hn]
    rw [compD_map (g := fun x => .bl (isFr x)) rfl xs (fun x m => by simp [wipeE, e1 x m])]
    simp [biL_all]
    by_cases c : xs.all isFr = true
    · have cl := hc xs rfl (by simpa using c)
      have e2 : cmpop h .eq (.tup xs) (.tup []) = some xs.isEmpty := by
        rw [cmp_eq, eqD_cln cl (show cln 3 (.tup []) = true from by decide) (by decide) (by intro a e; cases e)]
        cases xs <;> simp [pd, pds, PyData.eqv, PyData.eqvAll]
      by_cases hx : xs = []
      · subst hx
        simp [e2, isFm]
      · have hl : isFr (xs.getLast hx) = true := List.all_eq_true.mp c _ (List.getLast_mem _)
        have hg : xs.getLast? = some (xs.getLast hx) := List.getLast?_eq_some_getLast hx
        have ha := atI_last (xs := xs) hx
        generalize xs.getLast hx = z at hl hg ha
        obtain ⟨t, b, rfl⟩ : ∃ t b, z = .tup [.int t, .int b] := by
          unfold isFr at hl
          split at hl
          · exact ⟨_, _, rfl⟩
          · cases hl
        have e3 : xs.isEmpty = false := by cases xs with | nil => exact absurd rfl hx | cons _ _ => rfl
        rw [e3] at e2
        simp [c, e2, ha, isFm, hg]
    · have c : xs.all isFr = false := by simpa using c
      simp [c, isFm]
  | obj n => simp [D.lt] at hd
  | _ => simp [p_is_form, isFm]
theorem dec_six {l : Int} (h1 : 1 ≤ l) (h : l ∣ 6) : l = 1 ∨ l = 2 ∨ l = 3 ∨ l = 6 := by
  have := Int.le_of_dvd (by decide) h
  have : l = 1 ∨ l = 2 ∨ l = 3 ∨ l = 4 ∨ l = 5 ∨ l = 6 := by omega
  rcases this with rfl | rfl | rfl | rfl | rfl | rfl
  · exact .inl rfl
  · exact .inr (.inl rfl)
  · exact .inr (.inr (.inl rfl))
  · exact absurd h (by decide)
  · exact absurd h (by decide)
  · exact .inr (.inr (.inr rfl))
/-- numbers that divide 6 -/
def Six (l : Int) : Prop := 1 ≤ l ∧ l ∣ 6
theorem Six.or {l : Int} (s : Six l) : l = 1 ∨ l = 2 ∨ l = 3 ∨ l = 6 := dec_six s.1 s.2
theorem Six.lcm {a b : Int} (x : Six a) (y : Six b) : Six (lcmI a b) ∧ a ∣ lcmI a b ∧ b ∣ lcmI a b := by
  unfold Six
  rcases x.or with rfl | rfl | rfl | rfl <;> rcases y.or with rfl | rfl | rfl | rfl <;> decide
/-- forms whose bottoms divide 6 -/
def VF (f : List Fr) : Prop := ∀ p ∈ f, (-(2 ^ 40) < p.1 ∧ p.1 < 2 ^ 40) ∧ Six p.2
def botF (f : List Fr) : Int := f.foldl (fun m p => lcmI m p.2) 1
theorem bot_six : ∀ (f : List Fr) (m : Int), Six m → VF f → Six (f.foldl (fun m p => lcmI m p.2) m) ∧ m ∣ f.foldl (fun m p => lcmI m p.2) m ∧ ∀ p ∈ f, p.2 ∣ f.foldl (fun m p => lcmI m p.2) m
  | [], m, s, _ => ⟨s, Int.dvd_refl _, by simp⟩
  | p :: f, m, s, v => by
    obtain ⟨q1, q2, q3⟩ := s.lcm (v p List.mem_cons_self).2
    obtain ⟨r1, r2, r3⟩ := bot_six f (lcmI m p.2) q1 fun x hx => v x (List.mem_cons_of_mem _ hx)
    refine ⟨r1, Int.dvd_trans q2 r2, fun x hx => ?_⟩
    rcases List.mem_cons.mp hx with rfl | hx
    · exact Int.dvd_trans q3 r2
    · exact r3 x hx
theorem bot_ok {f : List Fr} (v : VF f) : Six (botF f) ∧ ∀ p ∈ f, p.2 ∣ botF f := by
  obtain ⟨a, _, b⟩ := bot_six f 1 ⟨by decide, by decide⟩ v
  exact ⟨a, b⟩
theorem frD_len {f : List Fr} : (f.map frD).length = f.length := List.length_map ..
theorem s_bottom_of {k : Nat} {h : Hh} {f : List Fr} (v : VF f) : callF P 100 (k + 3) 7 [fmD f] h = .ok (.int (botF f)) h := by
  refine call_pure (fd := p_bottom_of) rfl rfl rfl ?_
  simp [p_bottom_of, fmD]
  refine loop_ok _ (fun ys σ h' => h' = h ∧ ∃ (m : Int) (g : List Fr) (a b : Option D), ys = g.map frD ∧ VF g ∧ Six m ∧ g.foldl (fun m p => lcmI m p.2) m = botF f ∧ σ = [some (.tup (f.map frD)), some (.int m), a, b]) _ _ ⟨rfl, 1, f, none, none, rfl, v, ⟨by decide, by decide⟩, rfl, rfl⟩ (fun _ _ _ _ => rfl) ?_ ?_
  · rintro x ys σ h' ⟨rfl, m, g, a, b, e, vg, sm, ef, rfl⟩
    cases g with
    | nil => cases e
    | cons p g =>
      cases e
      have sp := (vg p List.mem_cons_self).2
      have hb : p.2 < 100 := by rcases sp.or with e | e | e | e <;> omega
      have e1 := s_lcm (k := k) (h := h') (show 0 ≤ m by have := sm.1; omega) sp.1 hb
      simp [frD, e1]
      exact ⟨_, g, rfl, fun x hx => vg x (List.mem_cons_of_mem _ hx), (sm.lcm sp).1, ef, rfl⟩
  · rintro σ h' ⟨rfl, m, g, a, b, e, vg, sm, ef, rfl⟩
    cases g with
    | nil => simp at ef; simp [ef]
    | cons p g => cases e

def over (f : List Fr) (b : Int) : List Int := f.map fun p => p.1 * (b / p.2)
theorem s_over_one {k : Nat} {h : Hh} {f : List Fr} {b : Int} (v : VF f) (hb : Six b) (hl : f.length ≤ 16777216) : callF P 100 (k + 1) 6 [fmD f, .int b] h = .ok (.obj h.length) (h ++ [.lst ((over f b).map .int)]) := by
  refine ok_eq.mpr (call_ok (fd := p_over_one) rfl rfl ?_)
  simp [p_over_one, fmD, hl]
  rw [compD_map (g := fun x => match x with | .tup [.int t, .int l] => .int (t * (b / l)) | _ => .non) rfl _ (fun x m => ?_)]
  · rw [ok_ok, fin_new (show D.lt h.length (.obj h.length) = false by simp [D.lt])]
    simp [over, frD, Function.comp_def]
  · obtain ⟨p, hp, rfl⟩ := List.mem_map.mp m
    obtain ⟨⟨t1, t2⟩, sl⟩ := v p hp
    have hb6 : b / p.2 ≤ 6 ∧ 0 ≤ b / p.2 := by
      rcases hb.or with rfl | rfl | rfl | rfl <;> rcases sl.or with e | e | e | e <;> rw [e] <;> decide
    simp [frD, wipeE, bin_fdiv (i := b) (show 0 < p.2 from sl.1) (by rcases sl.or with e | e | e | e <;> omega), bin_mul_l (i := p.1) (j := b / p.2) (by constructor <;> omega)]
/-- a sum of powers -/
def ev (n : Int) : List Int → Int
  | [] => 0
  | c :: cs => c + n * ev n cs
def topF (f : List Fr) (n : Int) : Int := ev n (over f (botF f))
/-- a place that is told of -/
def Plc (n : Int) : Prop := 0 ≤ n ∧ n < 2 ^ 40
theorem s_quotient {k : Nat} {h : Hh} {f : List Fr} {n : Int} (v : VF f) (hn : Plc n) (hl : f.length ≤ 16777216) : callF P 100 (k + 4) 8 [fmD f, .int n] h = .ok (.tup [.int (topF f n), .int (botF f)]) h := by
  obtain ⟨sb, db⟩ := bot_ok v
  refine call_pure (fd := p_quotient) rfl rfl rfl ?_
  have e1 := s_bottom_of (k := k) (h := h) v
  have e2 := s_over_one (k := k + 2) (h := h) v sb hl
  have e3 := seq_obj' (h := h ++ [.lst ((over f (botF f)).map .int)]) (n := h.length) (xs := (over f (botF f)).map .int) (by simp)
  have hs : ∀ c ∈ over f (botF f), -(2 ^ 64) < c ∧ c < 2 ^ 64 := by
    intro c hc
    obtain ⟨p, hp, rfl⟩ := List.mem_map.mp hc
    obtain ⟨⟨t1, t2⟩, sl⟩ := v p hp
    have hb6 : botF f / p.2 = 0 ∨ botF f / p.2 = 1 ∨ botF f / p.2 = 2 ∨ botF f / p.2 = 3 ∨ botF f / p.2 = 6 := by
      rcases sb.or with e0 | e0 | e0 | e0 <;> rcases sl.or with e | e | e | e <;> rw [e, e0] <;> decide
    rcases hb6 with e | e | e | e | e <;> rw [e] <;> omega
  have dk : depOk (h ++ [.lst ((over f (botF f)).map .int)]) [(h.length, (over f (botF f)).map .int)] = true := by simp [depOk]
  simp [p_quotient, e1, e2, e3, setAll]
  refine loop_ok _ (fun ys σ h' => h' = h ++ [.lst ((over f (botF f)).map .int)] ∧ ∃ (cs : List Int) (t p : Int) (a : Option D), ys = cs.map .int ∧ (∀ c ∈ cs, -(2 ^ 64) < c ∧ c < 2 ^ 64) ∧ t + p * ev n cs = topF f n ∧ σ = [some (fmD f), some (.int n), a, some (.int (botF f)), some (.int p), some (.int t)]) _ _ ⟨rfl, over f (botF f), 0, 1, none, rfl, hs, by simp [topF], rfl⟩ ?_ ?_ ?_
  · rintro ys σ h' ⟨rfl, _⟩; exact dk
  · rintro x ys σ h' ⟨rfl, cs, t, p, a, e, hc, et, rfl⟩
    cases cs with
    | nil => cases e
    | cons c cs =>
      cases e
      have hc0 := hc c List.mem_cons_self
      have hn' : -(2 ^ 64) < n ∧ n < 2 ^ 64 := by obtain ⟨a, b⟩ := hn; omega
      simp [bin_mul_l (i := c) (j := p) hc0, bin_mul_r (i := p) (j := n) hn', setAll]
      refine ⟨cs, rfl, fun x hx => hc x (List.mem_cons_of_mem _ hx), ?_⟩
      rw [← et, ev]
      refine ⟨_, _, ?_, rfl, rfl⟩
      rw [Int.mul_add, Int.mul_comm c p, Int.mul_assoc p n, Int.add_assoc]
  · rintro σ h' ⟨rfl, cs, t, p, a, e, hc, et, rfl⟩
    cases cs with
    | nil =>
      simp [ev] at et
      simp [et]
    | cons c cs => cases e
end K67

set_option Elab.async false
set_option linter.all false
set_option maxRecDepth 100000
set_option maxHeartbeats 4000000
set_option profiler true
set_option profiler.threshold 2000
namespace K67
open PySem Ev

def plcOf (a r p : Int) : Int := if a ≤ a / p * p + r then a / p * p + r else a / p * p + r + p
theorem s_place_of {k : Nat} {h : Hh} {a r p : Int} (hp : 1 ≤ p ∧ p < 100) : callF P 100 (k + 1) 9 [.int a, .int r, .int p] h = .ok (.int (plcOf a r p)) h := by
  refine call_pure (fd := p_place_of) rfl rfl rfl ?_
  by_cases c : a ≤ a / p * p + r <;> simp [p_place_of, bin_fdiv (i := a) (show 0 < p by omega) (show p < 1073741824 by omega), bin_mul_r (i := a / p) (j := p) (by constructor <;> omega), c, plcOf]
def tellsB (f : List Fr) (a p : Int) : Bool := (List.range f.length).all fun i => decide (topF f (a + (i : Nat) * p) % botF f = 0)
theorem rng_1 {n : Nat} (hn : n ≤ 16777216) : rngop [.int n] = some (rangeD 0 1 n) := by
  have c : -(2 ^ 62) ≤ (n : Int) ∧ (n : Int) < 2 ^ 62 := by omega
  simp only [rngop]
  rw [if_pos c, Int.toNat_natCast]
theorem rangeD_eq (a c : Int) (n : Nat) : rangeD a c n = (List.range n).map fun k => .int (a + (k : Nat) * c) := by
  unfold rangeD
  rfl
theorem s_tells {k : Nat} {h : Hh} {f : List Fr} {a p : Int} (v : VF f) (hl : f.length ≤ 100) (hp : ∀ i : Nat, i < f.length → Plc (a + i * p)) (hp2 : 1 ≤ p ∧ p < 100) : callF P 100 (k + 5) 10 [fmD f, .int a, .int p] h = .ok (.bl (tellsB f a p)) h := by
  obtain ⟨sb, _⟩ := bot_ok v
  refine call_pure (fd := p_tells_integers) rfl rfl rfl ?_
  have e0 : biop .len [fmD f] h = .ok (.int f.length) h := by unfold fmD; rw [bi_len_tup, List.length_map]
  simp [p_tells_integers, e0, rng_1 (n := f.length) (by omega)]
  refine loop_ok _ (fun ys σ h' => h' = h ∧ ∃ (j m : Nat) (x y z : Option D), j + m = f.length ∧ ys = (List.range' j m).map (fun i => .int (i : Nat)) ∧ (∀ i < j, topF f (a + (i : Nat) * p) % botF f = 0) ∧ σ = [some (fmD f), some (.int a), some (.int p), x, y, z]) _ _ ⟨rfl, 0, f.length, none, none, none, by omega, ?_, by simp, rfl⟩ (fun _ _ _ _ => rfl) ?_ ?_
  · rw [rangeD_eq, List.range_eq_range']
    simp
  · rintro x ys σ h' ⟨rfl, j, m, x1, y1, z1, hj, e, ha, rfl⟩
    cases m with
    | zero => cases e
    | succ m =>
      rw [List.range'_succ, List.map_cons] at e
      cases e
      have e1 := s_quotient (k := k) (h := h') v (hp j (by omega)) (by omega)
      simp [bin_mul_r (i := (j : Int)) (j := p) (by constructor <;> omega), e1, bin_mod (i := topF f (a + (j : Int) * p)) (show 0 < botF f from sb.1)]
      by_cases c : topF f (a + (j : Int) * p) % botF f = 0
      · simp [c]
        refine ⟨j + 1, m, by omega, rfl, fun i hi => ?_⟩
        rcases Nat.lt_succ_iff_lt_or_eq.mp hi with hi | rfl
        · exact ha i hi
        · exact c
      · simp [c, tellsB]
        exact ⟨j, by omega, c⟩
  · rintro σ h' ⟨rfl, j, m, x1, y1, z1, hj, e, ha, rfl⟩
    cases m with
    | zero =>
      have : j = f.length := by omega
      subst this
      simp [tellsB]
      exact ha
    | succ m => rw [List.range'_succ, List.map_cons] at e; cases e
def toldF (es : List Int) (fs : List (List Fr)) (n : Nat) : Option Int := if n < es.length then es[n]? else (fs[n % fs.length]?).map fun f => topF f n / botF f
theorem s_told_at {k : Nat} {h : Hh} {es : List Int} {fs : List (List Fr)} {n : Nat} {r : Int} (v : ∀ f ∈ fs, VF f ∧ f.length ≤ 100) (hf : 0 < fs.length) (hn : (n : Int) < 2 ^ 40) (e : toldF es fs n = some r) : callF P 100 (k + 5) 12 [.tup (es.map .int), fsD fs, .int n] h = .ok (.int r) h := by
  refine call_pure (fd := p_told_at) rfl rfl rfl ?_
  by_cases c : n < es.length
  · unfold toldF at e
    rw [if_pos c] at e
    have e2 : L2.atI (es.map D.int) (n : Int) = some (.int r) := by
      rw [atI_nat (by simpa using c), List.getElem?_map, e]; rfl
    simp [p_told_at, c, e2]
  · unfold toldF at e
    rw [if_neg c] at e
    obtain ⟨f, ef, e⟩ := Option.map_eq_some_iff.mp e
    have hm := List.mem_of_getElem? ef
    have e3 : L2.atI (fs.map fmD) ((n : Int) % (fs.length : Int)) = some (fmD f) := by
      rw [← Int.natCast_emod, atI_nat (by simpa using Nat.mod_lt _ hf), List.getElem?_map, ef]; rfl
    have e1 := s_quotient (k := k) (h := h) (v f hm).1 (n := n) ⟨by omega, hn⟩ (by have := (v f hm).2; omega)
    obtain ⟨sb, _⟩ := bot_ok (v f hm).1
    simp [p_told_at, c, fsD, bin_mod (i := (n : Int)) (show 0 < (fs.length : Int) by omega), e3, e1, bin_fdiv (i := topF f n) (show 0 < botF f from sb.1) (by rcases sb.or with e | e | e | e <;> omega), e]
theorem s_quotient_is {k : Nat} {h : Hh} {f : List Fr} {n m : Int} (v : VF f) (hn : Plc n) (hl : f.length ≤ 100) : callF P 100 (k + 5) 14 [fmD f, .int n, .int m] h = .ok (.bl (decide (topF f n = m * botF f))) h := by
  obtain ⟨sb, _⟩ := bot_ok v
  refine call_pure (fd := p_quotient_is) rfl rfl rfl ?_
  have e1 := s_quotient (k := k) (h := h) v hn (by omega)
  simp [p_quotient_is, e1, bin_mul_r (i := m) (j := botF f) (by rcases sb.or with e | e | e | e <;> omega)]
end K67

set_option Elab.async false
set_option linter.all false
set_option maxRecDepth 100000
set_option maxHeartbeats 4000000
namespace K67
open PySem Ev

theorem cln_fm {f : List Fr} : cln 2 (fmD f) = true := by
  unfold fmD
  rw [cln_tup, List.all_map, List.all_eq_true]
  intro p _
  show cln 1 (frD p) = true
  unfold frD
  rw [cln_tup]
  simp
theorem cln_fs {fs : List (List Fr)} : cln 3 (fsD fs) = true := by
  unfold fsD
  rw [cln_tup, List.all_map, List.all_eq_true]
  intro p _
  exact cln_fm
theorem all_cut {p : D → Bool} {xs : List D} {lo hi : Option Int} (h : xs.all p = true) : (cutD xs lo hi).all p = true := by
  rw [List.all_eq_true] at h ⊢
  intro x hx
  exact h x (List.mem_of_mem_drop (List.mem_of_mem_take hx))
theorem rng_2 {a b : Int} (h1 : -100000 < a ∧ a < 100000) (h2 : -100000 < b ∧ b < 100000) : rngop [.int a, .int b] = some (rangeD a 1 (b - a).toNat) := by
  have c : -(2 ^ 62) ≤ a ∧ a < 2 ^ 62 ∧ -(2 ^ 62) ≤ b ∧ b < 2 ^ 62 := by omega
  simp only [rngop]
  rw [if_pos c]
theorem rangeD_from (a n : Nat) : rangeD (a : Int) 1 n = (List.range' a n).map fun i => D.int (i : Nat) := by
  rw [rangeD_eq]
  apply List.ext_getElem (by simp)
  intro i h1 h2
  simp
theorem s_shortest {k : Nat} {h : Hh} {fs : List (List Fr)} (hl : fs.length ≤ 100) : ∃ m : Nat, m ≤ fs.length ∧ callF P 100 (k + 1) 11 [fsD fs] h = .ok (.int m) h := by
  have big : Ok (exSs (callF P 100 k) 100 p_shortest.body (ent p_shortest [fsD fs]) h) fun fl h' => h' = h ∧ ∃ m : Nat, m ≤ fs.length ∧ fl.val = some (.int m) := by
    have e0 : biop .len [fsD fs] h = .ok (.int fs.length) h := by unfold fsD; rw [bi_len_tup, List.length_map]
    have hl2 : ((fs.length : Int) - 1).toNat ≤ fs.length := by omega
    simp [p_shortest, e0, rng_2 (a := 1) (b := (fs.length : Int)) (by omega) (by omega)]
    refine loop_ok _ (fun ys σ h' => h' = h ∧ ∃ (j : Nat) (z : Option D), 1 ≤ j ∧ j + ys.length ≤ max 1 fs.length ∧ ys = (List.range' j ys.length).map (fun i => .int (i : Nat)) ∧ σ = [some (fsD fs), some (.int fs.length), z]) _ _ ⟨rfl, 1, none, Nat.le_refl _, ?_, ?_, rfl⟩ (fun _ _ _ _ => rfl) ?_ ?_
    · simp [rangeD]; omega
    · have := rangeD_from 1 (fs.length - 1)
      simp only [Int.natCast_one] at this
      rw [this]
      simp
    · rintro x ys σ h' ⟨rfl, j, z, hj, hy, e, rfl⟩
      rw [List.length_cons, List.range'_succ, List.map_cons] at e
      injection e with e1 e2
      subst e1
      have hjl : j < fs.length := by rw [List.length_cons] at hy; omega
      have c1 : ∀ lo hi, cln 3 (.tup (cutD (fs.map fmD) lo hi)) = true := fun lo hi => by
        rw [cln_tup]
        exact all_cut (by rw [← cln_tup]; exact cln_fs)
      have e4 : ∀ lo hi lo2 hi2, eqD h' (.tup (cutD (fs.map fmD) lo hi)) (.tup (cutD (fs.map fmD) lo2 hi2)) = some (PyData.eqv (pd (.tup (cutD (fs.map fmD) lo hi))) (pd (.tup (cutD (fs.map fmD) lo2 hi2)))) := fun lo hi lo2 hi2 => eqD_cln (c1 _ _) (c1 _ _) (by decide) (by intro a e; cases e)
      simp [bin_mod (i := (fs.length : Int)) (show 0 < (j : Int) by omega)]
      by_cases c : (fs.length : Int) % (j : Int) = 0
      · simp [c, slop, fsD, cmp_eq, e4]
        generalize PyData.eqv _ _ = bb
        cases bb with
        | true => simp; exact ⟨j, by omega, rfl⟩
        | false =>
          simp
          refine ⟨j + 1, by omega, by rw [List.length_cons] at hy; omega, e2⟩
      · simp [c]
        refine ⟨j + 1, by omega, by rw [List.length_cons] at hy; omega, e2⟩
    · rintro σ h' ⟨rfl, j, z, hj, hy, e, rfl⟩
      simp
      exact ⟨fs.length, Nat.le_refl _, rfl⟩
  obtain ⟨fl, h', e, rfl, m, hm, ev⟩ := big.ex
  refine ⟨m, hm, call_pure (fd := p_shortest) rfl rfl rfl ?_⟩
  rw [e]
  exact ⟨ev, List.prefix_refl _⟩

/-- what makes told forms good -/
def toldOk (es : List Int) (fs : List (List Fr)) : Prop := ∀ (r : Nat) (f : List Fr), fs[r]? = some f → tellsB f (plcOf es.length r fs.length) fs.length = true
theorem plc_bound {a r p : Int} (ha : 0 ≤ a ∧ a < 100) (hr : 0 ≤ r ∧ r < 100) (hp : 1 ≤ p ∧ p < 100) : 0 ≤ plcOf a r p ∧ plcOf a r p < 400 := by
  unfold plcOf
  have h1 := Int.mul_ediv_add_emod a p
  have h2 := Int.emod_nonneg a (show p ≠ 0 by omega)
  have h3 := Int.emod_lt_of_pos a (show 0 < p by omega)
  rw [Int.mul_comm] at h1
  generalize a / p * p = z at *
  split <;> omega
theorem isI_map (es : List Int) : (es.map D.int).all isI = true := by simp [isI]
theorem plc_step {a r p : Int} (ha : 0 ≤ a ∧ a < 100) (hr : 0 ≤ r ∧ r < 100) (hp : 1 ≤ p ∧ p < 100) (i : Nat) (hi : i < 100) : Plc (plcOf a r p + i * p) := by
  have := plc_bound ha hr hp
  have h1 : (i : Int) * p ≤ 100 * 100 := Int.mul_le_mul (by omega) (by omega) (by omega) (by omega)
  have h2 : 0 ≤ (i : Int) * p := Int.mul_nonneg (by omega) (by omega)
  constructor <;> omega
theorem cln_fm' {n : Nat} {f : List Fr} : cln (n + 2) (fmD f) = true := by
  unfold fmD
  rw [cln_tup, List.all_map, List.all_eq_true]
  intro p _
  show cln (n + 1) (frD p) = true
  unfold frD
  rw [cln_tup]
  simp
theorem s_is_fm {k : Nat} {h : Hh} {f : List Fr} (v : VF f) (hl : f.length ≤ 100) : callF P 100 (k + 4) 5 [fmD f] h = .ok (.bl (isFm (fmD f))) h := by
  refine s_is_form (cln_lt (cln_fm' (n := 0))) (fun xs e => ?_) (fun xs e _ => cln_fm' (n := 1)) fun xs e t b m => ?_
  · cases e
    simp
    omega
  · cases e
    obtain ⟨p, hp, e⟩ := List.mem_map.mp m
    cases e
    rcases (v p hp).2.or with e | e | e | e <;> omega
theorem enumD_fs (fs : List (List Fr)) (k : Nat) : enumD k (fs.map fmD) = (fs.zipIdx k).map fun p => .tup [.int (p.2 : Nat), fmD p.1] := by
  induction fs generalizing k with
  | nil => rfl
  | cons f fs ih => simp [enumD, ih]
def tAt (n : Int) (fs : List (List Fr)) (r : Nat) : Bool := match fs[r]? with
  | some f => tellsB f (plcOf n r fs.length) fs.length
  | none => true
def tAll (n : Int) (fs : List (List Fr)) : Bool := (List.range fs.length).all (tAt n fs)
/-- told forms: honest ones -/
theorem s_is_told {k : Nat} {h : Hh} {es : List Int} {fs : List (List Fr)} (v : ∀ f ∈ fs, VF f ∧ f.length ≤ 13 ∧ isFm (fmD f) = true) (hf : 0 < fs.length) (hl : fs.length < 100) (he : es.length < 100) :
    callF P 100 (k + 6) 13 [.tup (es.map .int), fsD fs] h = .ok (.bl (tAll es.length fs)) h := by
  refine call_pure (fd := p_is_told) rfl rfl rfl ?_
  have e0 : ∀ h : Hh, biop .len [fsD fs] h = .ok (.int fs.length) h := fun h => by unfold fsD; rw [bi_len_tup, List.length_map]
  have e1 : ∀ h : Hh, tyName h (fsD fs) = some "tuple" := fun h => rfl
  have e2 : ∀ h : Hh, cmpop h .eq (fsD fs) (.tup []) = some false := fun h => by
    rw [cmp_eq, eqD_cln (cln_fs (fs := fs)) (show cln 3 (.tup []) = true from by decide) (by decide) (by intro a e; cases e)]
    cases fs with
    | nil => cases hf
    | cons f fs => simp [fsD, pd, pds, PyData.eqv, PyData.eqvAll]
  have e3 : ∀ h : Hh, seqD h (fsD fs) = some (fs.map fmD, []) := fun h => rfl
  have hes : (es.map D.int).length ≤ 16777216 := by simp; omega
  have hfs : (fs.map fmD).length ≤ 16777216 := by simp; omega
  simp [p_is_told, e0, e1, e2, e3]
  rw [compD_map (g := fun x => .bl (isI x)) rfl (es.map D.int) (fun x m => by simp [wipeE, s_is_integer (k := k + 4) (h := h) (d := x) (by obtain ⟨i, _, rfl⟩ := List.mem_map.mp m; rfl)])]
  rw [if_pos (by omega)]
  simp only [ok_ok, biL_all, isI_map]
  simp [e0, e1, e2, e3]
  rw [compD_map (g := fun x => .bl (isFm x)) rfl (fs.map fmD) (fun x m => by
    obtain ⟨f, hf, rfl⟩ := List.mem_map.mp m
    have q := s_is_fm (k := k + 1) (h := h) (v f hf).1 (by have := (v f hf).2.1; omega)
    simp [wipeE, q])]
  rw [if_pos (by omega)]
  have hall : (fs.map fmD).all isFm = true := by
    rw [List.all_map, List.all_eq_true]
    exact fun f hf => (v f hf).2.2
  simp only [ok_ok, biL_all, hall]
  simp [e0, e1, e2, e3]
  have bb : ∀ r : Nat, r < fs.length → (0 : Int) ≤ (r : Int) ∧ (r : Int) < 100 := fun r hr => by omega
  have be : (0 : Int) ≤ (es.length : Int) ∧ (es.length : Int) < 100 := by omega
  have bf : (1 : Int) ≤ (fs.length : Int) ∧ (fs.length : Int) < 100 := by omega
  have hd : (es.map D.int).length = es.length := List.length_map ..
  refine loop_ok _ (fun ys σ h' => h' = h ∧ ∃ (gs : List (List Fr)) (j : Nat) (x y z w : Option D), ys = (gs.zipIdx j).map (fun p => .tup [.int (p.2 : Nat), fmD p.1]) ∧ fs.drop j = gs ∧ (∀ r < j, tAt es.length fs r = true) ∧ σ = [some (.tup (es.map .int)), some (fsD fs), x, y, z, w]) _ _ ⟨rfl, fs, 0, _, _, _, _, enumD_fs fs 0, by simp, by simp, rfl⟩ (fun _ _ _ _ => rfl) ?_ ?_
  · rintro x ys σ h' ⟨rfl, gs, j, x1, y1, z1, w1, e, hg, ha, rfl⟩
    cases gs with
    | nil => cases e
    | cons f gs =>
      rw [List.zipIdx_cons, List.map_cons] at e
      injection e with e5 e6
      subst e5
      have hj : j < fs.length := by
        by_cases c : j < fs.length
        · exact c
        · rw [List.drop_eq_nil_of_le (by omega)] at hg; cases hg
      have hfj : fs[j]? = some f := by
        have := congrArg (fun l : List (List Fr) => l[0]?) hg
        simpa using this
      have hm := List.mem_of_getElem? hfj
      have hgs : fs.drop (j + 1) = gs := by
        rw [← List.drop_drop, Nat.add_comm] at *
        have := congrArg List.tail hg
        simpa using this
      have q1 := s_place_of (k := k + 4) (h := h') (a := es.length) (r := j) (p := fs.length) bf
      have q2 := s_tells (k := k) (h := h') (f := f) (a := plcOf es.length j fs.length) (p := fs.length) (v f hm).1 (by have := (v f hm).2.1; omega) (fun i hi => plc_step be (bb j hj) bf i (by have := (v f hm).2.1; omega)) bf
      have q3 : biop .len [fmD f] h' = .ok (.int f.length) h' := by unfold fmD; rw [bi_len_tup, List.length_map]
      have q4 : ¬ (13 : Int) < (f.length : Int) := by have := (v f hm).2.1; omega
      simp [q3, q4, e0, hd, q1, q2]
      cases c : tellsB f (plcOf es.length j fs.length) fs.length with
      | true =>
        simp
        refine ⟨gs, j + 1, e6, hgs, fun r hr => ?_⟩
        rcases Nat.lt_succ_iff_lt_or_eq.mp hr with hr | rfl
        · exact ha r hr
        · simp [tAt, hfj, c]
      | false =>
        simp
        unfold tAll
        rw [List.all_eq_false]
        exact ⟨j, List.mem_range.mpr hj, by simp [tAt, hfj, c]⟩
  · rintro σ h' ⟨rfl, gs, j, x1, y1, z1, w1, e, hg, ha, rfl⟩
    have hall : tAll es.length fs = true := by
      unfold tAll
      rw [List.all_eq_true]
      intro r hr
      have hr := List.mem_range.mp hr
      refine ha r ?_
      cases gs with
      | nil =>
        have := List.drop_eq_nil_iff.mp hg
        omega
      | cons f gs => cases e
    obtain ⟨m, hm, qs⟩ := s_shortest (k := k + 4) (h := h') (fs := fs) (by omega)
    simp [hd]
    refine while_ok (fun n σ h2 => h2 = h' ∧ n ≤ es.length ∧ ∃ (a b c : Option D), σ = [some (.tup (es.map .int)), some (fsD fs), some (.int n), a, b, c]) ?_ 100 es.length _ _ he ⟨rfl, Nat.le_refl _, y1, z1, w1, rfl⟩
    rintro n σ h2 ⟨rfl, hn, a, b, c, rfl⟩
    by_cases h0 : 0 < n
    · have h1 : (n : Int) - 1 = ((n - 1 : Nat) : Int) := by omega
      have hlt : (n - 1) % fs.length < fs.length := Nat.mod_lt _ hf
      have i1 : L2.atI (fs.map fmD) (((n - 1 : Nat) : Int) % (fs.length : Int)) = some (fmD fs[(n - 1) % fs.length]) := by
        rw [← Int.natCast_emod, atI_nat (by simpa using hlt)]
        simp [hlt]
      have i2 : L2.atI (es.map D.int) ((n - 1 : Nat) : Int) = some (.int es[n - 1]) := by
        rw [atI_nat (by simp; omega)]
        simp
      have hmem := List.getElem_mem hlt
      have q5 := s_quotient_is (k := k) (h := h2) (f := fs[(n - 1) % fs.length]) (n := ((n - 1 : Nat) : Int)) (m := es[n - 1]) (v _ hmem).1 ⟨by omega, by omega⟩ (by have := (v _ hmem).2.1; omega)
      have i3 : itemsOf h2 (fsD fs) = some (fs.map fmD) := rfl
      simp [h0, h1, e0, bin_mod (i := ((n - 1 : Nat) : Int)) (show 0 < (fs.length : Int) by omega), i1, i2, i3, q5]
      by_cases ce : topF fs[(n - 1) % fs.length] ((n - 1 : Nat) : Int) = es[n - 1] * botF fs[(n - 1) % fs.length]
      · exact .inr ⟨ce, n - 1, by omega, by omega, rfl⟩
      · refine .inl ⟨ce, ?_⟩
        rw [qs]
        simp [hall]
        omega
    · simp [h0]
      rw [qs]
      simp [hall]
      omega
end K67

set_option Elab.async false
set_option linter.all false
set_option maxRecDepth 100000
set_option maxHeartbeats 4000000
namespace K67
open PySem Ev

/-! ### a polynomial moved -/
def addS (p : Int) : List Int → List Int → List Int
  | x :: F, g :: G => (g + p * x) :: addS p F G
  | _, G => G
/-- one turn: what is found, times (a + p t), with d more -/
def shft (a p d : Int) (F : List Int) : List Int := match F.map (a * ·) ++ [0] with
  | g :: G => (g + d) :: addS p F G
  | [] => []
def zipPad : List Int → List Int → List Int
  | [], [] => []
  | x :: A, [] => (0 - x) :: zipPad A []
  | [], y :: B => (y - 0) :: zipPad [] B
  | x :: A, y :: B => (y - x) :: zipPad A B
def hor (a p : Int) (ds : List Int) : List Int := ds.foldl (fun F d => shft a p d F) []
theorem addS_len (p : Int) : ∀ F G : List Int, (addS p F G).length = G.length
  | [], G => by cases G <;> rfl
  | x :: F, [] => rfl
  | x :: F, g :: G => by simp [addS, addS_len p F G]
theorem shft_len (a p d : Int) (F : List Int) : (shft a p d F).length = F.length + 1 := by
  unfold shft
  cases e : F.map (a * ·) ++ [0] with
  | nil => simp at e
  | cons g G =>
    have := congrArg List.length e
    simp at this
    simp [addS_len, this]
theorem dep1 {h : Hh} {n : Nat} {xs : List D} (e : h[n]? = some (.lst xs)) : depOk h [(n, xs)] = true := by simp [depOk, e]
/-- the inner loop: moved[at + 1] += step * part -/
theorem inner {k : Nat} {h0 : Hh} {F : List Int} {a p : Int} (hp : -(2 ^ 64) < p ∧ p < 2 ^ 64) {h : Hh} {m M : Nat} {G : List Int} {g : Int} (hm : h[m]? = some (.lst (F.map .int))) (hM : h[M]? = some (.lst ((g :: G).map .int))) (hmM : m ≠ M) (hpre : h0 <+: h) (hlM : h0.length ≤ M) (hG : G.length = F.length) (hG2 : F.length < 1000)
    {x0 x1 x4 x5 x7 x8 x9 x10 x12 x13 : Option D} {Q : Fl → Hh → Prop}
    (q : ∀ (y12 y13 : Option D) (h' : Hh), h0 <+: h' → h'[m]? = some (.lst (F.map .int)) → h'[M]? = some (.lst ((g :: addS p F G).map .int)) → (∀ j o, j ≠ M → h[j]? = some o → h'[j]? = some o) → Q (.nx [x0, x1, some (.int a), some (.int p), x4, x5, some (.obj m), x7, x8, x9, x10, some (.obj M), y12, y13]) h') :
    Ok (loopD [(m, F.map .int)] (fun x σ h => (asT (callF P 100 k) (.tp (.cons (.nm 12) (.cons (.nm 13) .nil))) x σ h).bind fun σ1 h2 => exSs (callF P 100 k) 100 (.cons (.augs .add (.var 11) (.bin .add (.var 12) (.lit (.int (1)))) (.bin .mul (.var 3) (.var 13))) .nil) σ1 h2) (enumD 0 (F.map .int))
      [x0, x1, some (.int a), some (.int p), x4, x5, some (.obj m), x7, x8, x9, x10, some (.obj M), x12, x13] h) Q := by
  refine loop_ok _ (fun ys σ h' => ∃ (F' done rest : List Int) (y12 y13 : Option D), ys = enumD done.length (F'.map .int) ∧ rest.length = F'.length ∧ done.length + F'.length = F.length ∧ done ++ addS p F' rest = addS p F G ∧ h0 <+: h' ∧ h'[m]? = some (.lst (F.map .int)) ∧ h'[M]? = some (.lst ((g :: (done ++ rest)).map .int)) ∧ (∀ j o, j ≠ M → h[j]? = some o → h'[j]? = some o) ∧
    σ = [x0, x1, some (.int a), some (.int p), x4, x5, some (.obj m), x7, x8, x9, x10, some (.obj M), y12, y13]) _ _ ⟨F, [], G, x12, x13, rfl, hG, by simp, rfl, hpre, hm, hM, fun _ _ _ e => e, rfl⟩ ?_ ?_ ?_
  · rintro ys σ h' ⟨F', done, rest, y12, y13, _, _, _, _, _, e, _, _, _⟩
    exact dep1 e
  · rintro x ys σ h' ⟨F', done, rest, y12, y13, e, hr, hd, ea, hp', em, eM, ef, rfl⟩
    cases F' with
    | nil => cases e
    | cons f F' =>
      cases rest with
      | nil => cases hr
      | cons r rest =>
        simp only [List.map_cons, enumD] at e
        injection e with e1 e2
        subst e1
        have hl : (done.length : Int) + 1 = ((done.length + 1 : Nat) : Int) := by omega
        have i1 : L2.atI ((g :: (done ++ r :: rest)).map D.int) ((done.length + 1 : Nat) : Int) = some (.int r) := by
          rw [atI_nat (by simp)]
          simp
        have i2 : L2.ixN ((g :: (done ++ r :: rest)).map D.int).length ((done.length + 1 : Nat) : Int) = some (done.length + 1) := by
          unfold L2.ixN
          rw [if_pos (by omega), if_pos (by simp; omega), Int.toNat_natCast]
        have i3 : itemsOf h' (.obj M) = some ((g :: (done ++ r :: rest)).map .int) := items_obj eM
        have i4 : getop h' (.obj M) (.int ((done.length + 1 : Nat) : Int)) = .ok (.int r) h' := by
          simp only [getop, ix_int, i3, Option.bind_some, i1]
        have i5 : setop h' (.obj M) (.int ((done.length + 1 : Nat) : Int)) (.int (r + p * f)) = .ok () (h'.set M (.lst ((g :: ((done ++ [r + p * f]) ++ rest)).map .int))) := by
          simp only [setop, eM, i2]
          congr 2
          simp
        rw [← hl] at i4 i5
        simp [i4, bin_mul_l (i := p) (j := f) hp, augop, i5]
        have hM' : M < h'.length := (List.getElem?_eq_some_iff.mp eM).1
        refine ⟨F', done ++ [r + p * f], by rw [e2]; simp, rest, by simpa using hr, by simp at hd ⊢; omega, by rw [← ea]; simp [addS], Pre.set hp' hlM, ?_, ?_, ?_⟩
        · rw [List.getElem?_set_ne (by omega)]; exact em
        · rw [List.getElem?_set_self hM']; simp
        · intro j o hj ej
          rw [List.getElem?_set_ne (by omega)]
          exact ef j o hj ej
  · rintro σ h' ⟨F', done, rest, y12, y13, e, hr, hd, ea, hp', em, eM, ef, rfl⟩
    cases F' with
    | nil =>
      cases rest with
      | cons _ _ => cases hr
      | nil =>
        have ea : done = addS p F G := by simpa [addS] using ea
        refine q y12 y13 h' hp' em ?_ ef
        rw [← ea]
        simpa using eM
    | cons f F' => simp [enumD] at e

def bodyS : Ss := (.cons (.asg (.nm 11) (.bin .add (.comp (.mk (.bin .mul (.var 2) (.var 13)) (.nm 13) (.seq (.var 6)) .no [13])) (.lst (.cons (.lit (.int (0))) .nil))))
      (.cons (.loop (.tp (.cons (.nm 12) (.cons (.nm 13) .nil))) (.enm (.var 6)) (.cons (.augs .add (.var 11) (.bin .add (.var 12) (.lit (.int (1)))) (.bin .mul (.var 3) (.var 13)))
      .nil))
      (.cons (.augs .add (.var 11) (.lit (.int (0))) (.bin .sub (.var 10) (.var 9)))
      (.cons (.asg (.nm 6) (.var 11))
      .nil))))
theorem turnS {k : Nat} {h0 : Hh} {F : List Int} {a p l mo : Int} (ha : -(2 ^ 64) < a ∧ a < 2 ^ 64) (hp : -(2 ^ 64) < p ∧ p < 2 ^ 64) {h : Hh} {m : Nat} (hm : h[m]? = some (.lst (F.map .int))) (hpre : h0 <+: h) (hF : F.length < 1000)
    {x0 x1 x4 x5 x7 x8 x11 x12 x13 : Option D} :
    Ok (exSs (callF P 100 k) 100 bodyS [x0, x1, some (.int a), some (.int p), x4, x5, some (.obj m), x7, x8, some (.int l), some (.int mo), x11, x12, x13] h) fun fl h' =>
      ∃ (M : Nat) (y11 y12 y13 : Option D), fl = .nx [x0, x1, some (.int a), some (.int p), x4, x5, some (.obj M), x7, x8, some (.int l), some (.int mo), y11, y12, y13] ∧ h0 <+: h' ∧ h'[M]? = some (.lst ((shft a p (mo - l) F).map .int)) ∧ ∀ (j : Nat) (o : O), h[j]? = some o → h'[j]? = some o := by
  obtain ⟨g, G, eG⟩ : ∃ g G, F.map (a * ·) ++ [0] = g :: G := by cases F with
    | nil => exact ⟨_, _, rfl⟩
    | cons x F => exact ⟨_, _, rfl⟩
  have hGl : G.length = F.length := by have := congrArg List.length eG; simp at this; omega
  have hlen : (F.map D.int).length ≤ 16777216 := by simp; omega
  have hmlt : m < h.length := (List.getElem?_eq_some_iff.mp hm).1
  have eC : evC (callF P 100 k) (.mk (.bin .mul (.var 2) (.var 13)) (.nm 13) (.seq (.var 6)) .no [13]) [x0, x1, some (.int a), some (.int p), x4, x5, some (.obj m), x7, x8, some (.int l), some (.int mo), x11, x12, x13] h = .ok (F.map fun x => .int (a * x)) h := by
    simp [seq_obj' hm]
    rw [if_pos (by omega), compD_map (g := fun x => match x with | .int i => .int (a * i) | _ => .non) (dep1 hm) _ (fun x mx => ?_)]
    · simp [Function.comp_def]
    · obtain ⟨i, _, rfl⟩ := List.mem_map.mp mx
      simp [wipeE, bin_mul_l (i := a) (j := i) ha]
  have e1 : binop .add (.obj h.length) (.obj (h.length + 1)) (h ++ [.lst (F.map fun x => .int (a * x))] ++ [.lst [.int 0]]) = .ok (.obj (h.length + 2)) (h ++ [.lst (F.map fun x => .int (a * x))] ++ [.lst [.int 0]] ++ [.lst ((g :: G).map .int)]) := by
    simp only [binop]
    rw [show (h ++ [O.lst (F.map fun x => D.int (a * x))] ++ [O.lst [.int 0]])[h.length]? = some (.lst (F.map fun x => .int (a * x))) by simp, show (h ++ [O.lst (F.map fun x => D.int (a * x))] ++ [O.lst [.int 0]])[h.length + 1]? = some (.lst [.int 0]) by simp]
    simp only
    rw [if_pos (by simp; omega), ← eG]
    simp [Function.comp_def]
  unfold bodyS
  rw [xs_cons, ok_bind, x_asg, ok_bind, e_bin, ok_bind, e_comp, ok_bind, eC, ok_ok, ok_ok]
  simp only [e_lst, es_cons, es_nil, e_lit, R.bind_ok, List.length_singleton, sz_val, List.length_append]
  rw [if_pos (by decide)]
  simp only [R.bind_ok, ok_ok, e1, as_nm, List.set_cons_succ, List.set_cons_zero]
  generalize hh : h ++ [O.lst (F.map fun x => D.int (a * x))] ++ [O.lst [.int 0]] ++ [O.lst ((g :: G).map .int)] = h3
  have p3 : h <+: h3 := by rw [← hh, List.append_assoc, List.append_assoc]; exact List.prefix_append _ _
  have m3 := Pre.get p3 hm
  have M3 : h3[h.length + 2]? = some (.lst ((g :: G).map .int)) := by rw [← hh]; simp
  have eI : ∀ y11, evI (callF P 100 k) (.enm (.var 6)) [x0, x1, some (.int a), some (.int p), x4, x5, some (.obj m), x7, x8, some (.int l), some (.int mo), y11, x12, x13] h3 = .ok (enumD 0 (F.map .int), [(m, F.map .int)]) h3 := fun y11 => by simp [seq_obj' m3]
  rw [xs_cons, ok_bind, x_loop, ok_bind, eI, ok_ok]
  refine inner hp m3 M3 (by omega) (hpre.trans p3) (by have := hpre.length_le; omega) hGl hF fun y12 y13 h4 p4 m4 M4 k4 => ?_
  have hM4 : h.length + 2 < h4.length := (List.getElem?_eq_some_iff.mp M4).1
  have i4 : getop h4 (.obj (h.length + 2)) (.int 0) = .ok (.int g) h4 := by
    simp only [getop, ix_int, items_obj M4, Option.bind_some, List.map_cons, atI_0]
  have i5 : setop h4 (.obj (h.length + 2)) (.int 0) (.int (g + (mo - l))) = .ok () (h4.set (h.length + 2) (.lst ((shft a p (mo - l) F).map .int))) := by
    have : L2.ixN ((g :: addS p F G).map D.int).length 0 = some 0 := by
      unfold L2.ixN
      simp
    simp only [setop, M4, this]
    congr 2
    unfold shft
    rw [eG]
    simp
  simp [i4, augop, i5]
  refine ⟨Pre.set p4 (by have := hpre.length_le; omega), by rw [List.getElem?_set_self hM4], fun j o e => ?_⟩
  have hj : j < h.length := (List.getElem?_eq_some_iff.mp e).1
  rw [List.getElem?_set_ne (by omega)]
  exact k4 j o (by omega) (Pre.get p3 e)
end K67

set_option Elab.async false
set_option linter.all false
set_option maxRecDepth 100000
set_option maxHeartbeats 4000000
namespace K67
open PySem Ev

theorem bin_add_obj {h : Hh} {n m : Nat} {xs ys : List D} (e1 : h[n]? = some (.lst xs)) (e2 : h[m]? = some (.lst ys)) (l : xs.length + ys.length ≤ 16777216) : binop .add (.obj n) (.obj m) h = .ok (.obj h.length) (h ++ [.lst (xs ++ ys)]) := by
  simp only [binop, e1, e2, sz_val]
  rw [if_pos l]
theorem bin_mul_obj {h : Hh} {n : Nat} {z : D} {k : Nat} (e : h[n]? = some (.lst [z])) (l : k ≤ 16777216) : binop .mul (.obj n) (.int (k : Int)) h = .ok (.obj h.length) (h ++ [.lst (List.replicate k z)]) := by
  simp only [binop, e, sz_val]
  rw [if_pos ⟨by omega, by omega, by simp; omega⟩]
  simp
def pad (A : List Int) (n : Nat) : List Int := A ++ List.replicate (n - A.length) 0
theorem zipD_int : ∀ A B : List Int, zipD (A.map .int) (B.map .int) = (A.zip B).map fun p => .tup [.int p.1, .int p.2]
  | [], _ => by simp [zipD]
  | _ :: _, [] => by simp [zipD]
  | x :: A, y :: B => by simp [zipD, zipD_int A B]
theorem zipPad_nilL : ∀ B : List Int, zipPad [] B = B.map fun y => y - 0
  | [] => by simp [zipPad]
  | y :: B => by simp [zipPad, zipPad_nilL B]
theorem zipPad_nilR : ∀ A : List Int, zipPad A [] = A.map fun x => 0 - x
  | [] => by simp [zipPad]
  | y :: B => by simp [zipPad, zipPad_nilR B]
theorem zip_rep1 : ∀ B : List Int, ((List.replicate B.length (0 : Int)).zip B).map (fun p => p.2 - p.1) = B.map fun y => y - 0
  | [] => rfl
  | y :: B => by rw [List.length_cons, List.replicate_succ, List.zip_cons_cons, List.map_cons, zip_rep1 B]; rfl
theorem zip_rep2 : ∀ B : List Int, (B.zip (List.replicate B.length (0 : Int))).map (fun p => p.2 - p.1) = B.map fun y => 0 - y
  | [] => rfl
  | y :: B => by rw [List.length_cons, List.replicate_succ, List.zip_cons_cons, List.map_cons, zip_rep2 B]; rfl
theorem zip_pad : ∀ A B : List Int, ((pad A (max A.length B.length)).zip (pad B (max A.length B.length))).map (fun p => p.2 - p.1) = zipPad A B
  | [], B => by rw [zipPad_nilL]; have := zip_rep1 B; simpa [pad] using this
  | x :: A, [] => by rw [zipPad_nilR]; have := zip_rep2 (x :: A); simpa [pad] using this
  | x :: A, y :: B => by
    have ih := zip_pad A B
    have e : max (A.length + 1) (B.length + 1) = max A.length B.length + 1 := by omega
    simp only [pad, List.length_cons, e, Nat.add_sub_add_right, List.cons_append, List.zip_cons_cons, List.map_cons, zipPad] at ih ⊢
    rw [ih]
/-- does one stay at most the other? -/
def staysB (f g : List Fr) (a p : Int) : Bool := (hor a p (zipPad (over f (lcmI (botF f) (botF g))) (over g (lcmI (botF f) (botF g)))).reverse).all fun x => decide (0 ≤ x)
theorem hor_len (a p : Int) : ∀ (ds F : List Int), (ds.foldl (fun F d => shft a p d F) F).length = F.length + ds.length
  | [], F => by simp
  | d :: ds, F => by rw [List.foldl_cons, hor_len a p ds, shft_len, List.length_cons]; omega
theorem s_stays {k : Nat} {h : Hh} {f g : List Fr} {a p : Int} (vf : VF f) (vg : VF g) (lf : f.length ≤ 100) (lg : g.length ≤ 100) (ha : -(2 ^ 64) < a ∧ a < 2 ^ 64) (hp : -(2 ^ 64) < p ∧ p < 2 ^ 64) : callF P 100 (k + 4) 15 [fmD f, fmD g, .int a, .int p] h = .ok (.bl (staysB f g a p)) h := by
  refine call_pure (fd := p_stays_at_most) rfl rfl rfl ?_
  obtain ⟨sf, _⟩ := bot_ok vf
  obtain ⟨sg, _⟩ := bot_ok vg
  have sC := (sf.lcm sg).1
  unfold staysB
  generalize eC : lcmI (botF f) (botF g) = C at sC ⊢
  have e1 := s_bottom_of (k := k) (h := h) vf
  have e2 := s_bottom_of (k := k) (h := h) vg
  have e3 := s_lcm (k := k + 1) (h := h) (a := botF f) (b := botF g) (by have := sf.1; omega) sg.1 (by rcases sg.or with e | e | e | e <;> omega)
  rw [eC] at e3
  have e4 : ∀ h : Hh, callF P 100 (k + 3) 6 [fmD f, .int C] h = .ok (.obj h.length) (h ++ [.lst ((over f C).map .int)]) := fun h => s_over_one (k := k + 2) vf sC (by omega)
  have e5 : ∀ h : Hh, callF P 100 (k + 3) 6 [fmD g, .int C] h = .ok (.obj h.length) (h ++ [.lst ((over g C).map .int)]) := fun h => s_over_one (k := k + 2) vg sC (by omega)
  have lA : (over f C).length ≤ 100 := by simp [over]; omega
  have lB : (over g C).length ≤ 100 := by simp [over]; omega
  generalize over f C = A at *
  generalize over g C = B at *
  show Ok (exSs (callF P 100 (k + 3)) 100 p_stays_at_most.body [some (fmD f), some (fmD g), some (.int a), some (.int p), none, none, none, none, none, none, none, none, none, none] h) _
  unfold p_stays_at_most
  -- bottom, found
  rw [xs_cons, ok_bind]
  rw [show exS (callF P 100 (k + 3)) 100 (.par [5, 6] (.cons (.call 3 (.cons (.call 7 (.cons (.var 0) .nil)) (.cons (.call 7 (.cons (.var 1) .nil)) .nil))) (.cons (.lst .nil) .nil))) [some (fmD f), some (fmD g), some (.int a), some (.int p), none, none, none, none, none, none, none, none, none, none] h
    = .ok (.nx [some (fmD f), some (fmD g), some (.int a), some (.int p), none, some (.int C), some (.obj h.length), none, none, none, none, none, none, none]) (h ++ [.lst []]) by
      simp [e1, e2, e3, setAll]]
  simp only [ok_ok]
  generalize hh1 : h ++ [O.lst []] = h1
  have p1 : h <+: h1 := by rw [← hh1]; exact List.prefix_append _ _
  have f1 : h1[h.length]? = some (.lst []) := by rw [← hh1]; simp
  generalize hn0 : h.length = n0 at f1 ⊢
  -- mine, theirs
  rw [xs_cons, ok_bind]
  rw [show exS (callF P 100 (k + 3)) 100 (.par [7, 8] (.cons (.call 6 (.cons (.var 0) (.cons (.var 5) .nil))) (.cons (.call 6 (.cons (.var 1) (.cons (.var 5) .nil))) .nil))) [some (fmD f), some (fmD g), some (.int a), some (.int p), none, some (.int C), some (.obj n0), none, none, none, none, none, none, none] h1
    = .ok (.nx [some (fmD f), some (fmD g), some (.int a), some (.int p), none, some (.int C), some (.obj n0), some (.obj h1.length), some (.obj (h1.length + 1)), none, none, none, none, none]) (h1 ++ [.lst (A.map .int)] ++ [.lst (B.map .int)]) by
      simp [e4, e5, setAll]]
  simp only [ok_ok]
  generalize hh2 : h1 ++ [O.lst (A.map .int)] ++ [O.lst (B.map .int)] = h2
  have p2 : h1 <+: h2 := by rw [← hh2, List.append_assoc]; exact List.prefix_append _ _
  have f2 : h2[h1.length]? = some (.lst (A.map .int)) := by rw [← hh2]; simp
  have g2 : h2[h1.length + 1]? = some (.lst (B.map .int)) := by rw [← hh2]; simp
  generalize h1.length = nA at f2 g2 ⊢
  generalize nA + 1 = nB at g2 ⊢
  -- most
  rw [xs_cons, ok_bind]
  have b1 : biop .len [.obj nA] h2 = .ok (.int A.length) h2 := by simp only [biop, f2, biL, List.length_map]
  have b2 : biop .len [.obj nB] h2 = .ok (.int B.length) h2 := by simp only [biop, g2, biL, List.length_map]
  have b3 : biop .max [.int A.length, .int B.length] h2 = .ok (.int (max A.length B.length : Nat)) h2 := by
    simp only [biop]
    congr 2
    split <;> omega
  rw [show exS (callF P 100 (k + 3)) 100 (.asg (.nm 4) (.bi .max (.cons (.bi .len (.cons (.var 7) .nil)) (.cons (.bi .len (.cons (.var 8) .nil)) .nil)))) [some (fmD f), some (fmD g), some (.int a), some (.int p), none, some (.int C), some (.obj n0), some (.obj nA), some (.obj nB), none, none, none, none, none] h2
    = .ok (.nx [some (fmD f), some (fmD g), some (.int a), some (.int p), some (.int (max A.length B.length : Nat)), some (.int C), some (.obj n0), some (.obj nA), some (.obj nB), none, none, none, none, none]) h2 by
      simp only [x_asg, e_bi, es_cons, es_nil, e_var, getV_eq, List.getElem?_cons_succ, List.getElem?_cons_zero, R.bind_ok, b1, b2, b3, as_nm, List.set_cons_succ, List.set_cons_zero]]
  simp only [ok_ok]
  -- padded
  rw [xs_cons, ok_bind]
  have k1 : (((max A.length B.length : Nat) : Int) - (A.length : Int)) = ((max A.length B.length - A.length : Nat) : Int) := by omega
  have k2 : (((max A.length B.length : Nat) : Int) - (B.length : Int)) = ((max A.length B.length - B.length : Nat) : Int) := by omega
  generalize hM : max A.length B.length = M at *
  have hM100 : M ≤ 100 := by omega
  have P1 : ∀ (h : Hh) (σ : En), h[nA]? = some (.lst (A.map .int)) → σ[7]? = some (some (.obj nA)) → σ[4]? = some (some (.int M)) → evE (callF P 100 (k + 3)) (.bin .add (.var 7) (.bin .mul (.lst (.cons (.lit (.int (0))) .nil)) (.bin .sub (.var 4) (.bi .len (.cons (.var 7) .nil))))) σ h
      = .ok (.obj (h.length + 2)) (h ++ [.lst [.int 0]] ++ [.lst (List.replicate (M - A.length) (.int 0))] ++ [.lst ((pad A M).map .int)]) := by
    intro h σ q s7 s4
    have u1 : biop .len [.obj nA] (h ++ [.lst [.int 0]]) = .ok (.int A.length) (h ++ [.lst [.int 0]]) := by simp only [biop, Pre.get (List.prefix_append h _) q, biL, List.length_map]
    have u2 := bin_mul_obj (h := h ++ [.lst [.int 0]]) (n := h.length) (z := .int 0) (k := M - A.length) (by simp) (by omega)
    have u3 := bin_add_obj (h := h ++ [.lst [.int 0]] ++ [.lst (List.replicate (M - A.length) (.int 0))]) (n := nA) (m := h.length + 1) (xs := A.map .int) (ys := List.replicate (M - A.length) (.int 0)) (Pre.get (by rw [List.append_assoc]; exact List.prefix_append h _) q) (by simp) (by simp; omega)
    simp only [e_bin, e_var, getV_eq, s7, s4, R.bind_ok, e_lst, es_cons, es_nil, e_lit, List.length_singleton, sz_val, e_bi, u1, bin_sub_int, k1]
    rw [if_pos (by decide)]
    simp only [R.bind_ok, u1, bin_sub_int, k1, u2]
    simp only [List.length_append, List.length_singleton] at u3 ⊢
    rw [u3]
    simp [pad]
  have P2 : ∀ (h : Hh) (σ : En), h[nB]? = some (.lst (B.map .int)) → σ[8]? = some (some (.obj nB)) → σ[4]? = some (some (.int M)) → evE (callF P 100 (k + 3)) (.bin .add (.var 8) (.bin .mul (.lst (.cons (.lit (.int (0))) .nil)) (.bin .sub (.var 4) (.bi .len (.cons (.var 8) .nil))))) σ h
      = .ok (.obj (h.length + 2)) (h ++ [.lst [.int 0]] ++ [.lst (List.replicate (M - B.length) (.int 0))] ++ [.lst ((pad B M).map .int)]) := by
    intro h σ q s7 s4
    have u1 : biop .len [.obj nB] (h ++ [.lst [.int 0]]) = .ok (.int B.length) (h ++ [.lst [.int 0]]) := by simp only [biop, Pre.get (List.prefix_append h _) q, biL, List.length_map]
    have u2 := bin_mul_obj (h := h ++ [.lst [.int 0]]) (n := h.length) (z := .int 0) (k := M - B.length) (by simp) (by omega)
    have u3 := bin_add_obj (h := h ++ [.lst [.int 0]] ++ [.lst (List.replicate (M - B.length) (.int 0))]) (n := nB) (m := h.length + 1) (xs := B.map .int) (ys := List.replicate (M - B.length) (.int 0)) (Pre.get (by rw [List.append_assoc]; exact List.prefix_append h _) q) (by simp) (by simp; omega)
    simp only [e_bin, e_var, getV_eq, s7, s4, R.bind_ok, e_lst, es_cons, es_nil, e_lit, List.length_singleton, sz_val, e_bi, u1, bin_sub_int, k2]
    rw [if_pos (by decide)]
    simp only [R.bind_ok, u1, bin_sub_int, k2, u2]
    simp only [List.length_append, List.length_singleton] at u3 ⊢
    rw [u3]
    simp [pad]
  simp only [x_par, es_cons, es_nil, ok_bind]
  rw [P1 h2 _ f2 rfl rfl, ok_ok]
  generalize hh3 : h2 ++ [O.lst [D.int 0]] ++ [O.lst (List.replicate (M - A.length) (D.int 0))] ++ [O.lst ((pad A M).map .int)] = h3
  have p3 : h2 <+: h3 := by rw [← hh3, List.append_assoc, List.append_assoc]; exact List.prefix_append _ _
  have f3 : h3[h2.length + 2]? = some (.lst ((pad A M).map .int)) := by rw [← hh3]; simp
  rw [P2 h3 _ (Pre.get p3 g2) rfl rfl, ok_ok]
  generalize hh4 : h3 ++ [O.lst [D.int 0]] ++ [O.lst (List.replicate (M - B.length) (D.int 0))] ++ [O.lst ((pad B M).map .int)] = h4
  have p4 : h3 <+: h4 := by rw [← hh4, List.append_assoc, List.append_assoc]; exact List.prefix_append _ _
  have g4 : h4[h3.length + 2]? = some (.lst ((pad B M).map .int)) := by rw [← hh4]; simp
  have f4 := Pre.get p4 f3
  have z4 := Pre.get p4 (Pre.get p3 (Pre.get p2 f1))
  have pp : h <+: h4 := ((p1.trans p2).trans p3).trans p4
  generalize h2.length + 2 = nA2 at f4 ⊢
  generalize h3.length + 2 = nB2 at g4 ⊢
  simp only [ok_ok, List.length_cons, List.length_nil, if_true, setAll, List.set_cons_succ, List.set_cons_zero]
  -- the loop
  rw [xs_cons, ok_bind, x_loop, ok_bind]
  have zl : zipop h4 (.obj nA2) (.obj nB2) = some ((((pad A M).zip (pad B M)).map fun p => .tup [.int p.1, .int p.2]), [(nA2, (pad A M).map .int), (nB2, (pad B M).map .int)]) := by
    simp only [zipop]
    rw [seq_obj' f4, seq_obj' g4]
    simp only [zipD_int]
    rfl
  have hz : ((pad A M).zip (pad B M)).length ≤ 100 := by
    rw [List.length_zip]
    simp [pad]
    omega
  have l1 : biop .lzip [.obj nA2, .obj nB2] h4 = .ok (.obj h4.length) (h4 ++ [.lst (((pad A M).zip (pad B M)).map fun p => .tup [.int p.1, .int p.2])]) := by
    simp only [biop, zl, sz_val]
    rw [if_pos (by simp only [List.length_map]; omega)]
  have l2 : revop (h4 ++ [.lst (((pad A M).zip (pad B M)).map fun p => .tup [.int p.1, .int p.2])]) (.obj h4.length) = .ok (.obj (h4.length + 1)) (h4 ++ [.lst (((pad A M).zip (pad B M)).map fun p => .tup [.int p.1, .int p.2])] ++ [.lst (((pad A M).zip (pad B M)).map fun p => .tup [.int p.1, .int p.2]).reverse]) := by
    simp [revop]
  generalize hh5 : h4 ++ [O.lst (((pad A M).zip (pad B M)).map fun p => D.tup [.int p.1, .int p.2])] ++ [O.lst (((pad A M).zip (pad B M)).map fun p => D.tup [.int p.1, .int p.2]).reverse] = h5 at l2
  have p5 : h4 <+: h5 := by rw [← hh5, List.append_assoc]; exact List.prefix_append _ _
  have r5 : h5[h4.length + 1]? = some (.lst (((pad A M).zip (pad B M)).map fun p => D.tup [.int p.1, .int p.2]).reverse) := by rw [← hh5]; simp
  have z5 := Pre.get p5 z4
  rw [show evI (callF P 100 (k + 3)) (.seq (.rev (.bi .lzip (.cons (.var 7) (.cons (.var 8) .nil))))) [some (fmD f), some (fmD g), some (.int a), some (.int p), some (.int M), some (.int C), some (.obj n0), some (.obj nA2), some (.obj nB2), none, none, none, none, none] h4 = .ok ((((pad A M).zip (pad B M)).map fun p => D.tup [.int p.1, .int p.2]).reverse, [(h4.length + 1, (((pad A M).zip (pad B M)).map fun p => D.tup [.int p.1, .int p.2]).reverse)]) h5 by
    simp only [i_seq, e_rev, e_bi, es_cons, es_nil, e_var, getV_eq, List.getElem?_cons_succ, List.getElem?_cons_zero, R.bind_ok, l1, l2, seq_obj' r5]]
  simp only [ok_ok]
  have hds : zipPad A B = ((pad A M).zip (pad B M)).map fun p => p.2 - p.1 := by rw [← hM]; exact (zip_pad A B).symm
  rw [hds]
  generalize hZ : (pad A M).zip (pad B M) = Z at *
  rw [← List.map_reverse] at r5 ⊢
  generalize hr : Z.reverse = ZR at *
  have hZR : ZR.length ≤ 100 := by rw [← hr, List.length_reverse]; exact hz
  refine loop_ok _ (fun ys σ h' => ∃ (Y : List (Int × Int)) (F : List Int) (m : Nat) (y9 y10 y11 y12 y13 : Option D), ys = Y.map (fun p => D.tup [.int p.1, .int p.2]) ∧ F.length + Y.length ≤ 100 ∧ (Y.map fun p => p.2 - p.1).foldl (fun F d => shft a p d F) F = hor a p (ZR.map fun p => p.2 - p.1) ∧ h <+: h' ∧ h'[m]? = some (.lst (F.map .int)) ∧ h'[h4.length + 1]? = some (.lst (ZR.map fun p => D.tup [.int p.1, .int p.2])) ∧
    σ = [some (fmD f), some (fmD g), some (.int a), some (.int p), some (.int M), some (.int C), some (.obj m), some (.obj nA2), some (.obj nB2), y9, y10, y11, y12, y13]) _ _ ⟨ZR, [], n0, none, none, none, none, none, rfl, by simpa using hZR, rfl, pp.trans p5, z5, r5, rfl⟩ ?_ ?_ ?_
  · rintro ys σ h' ⟨_, _, _, _, _, _, _, _, _, _, _, _, _, e, _⟩
    exact dep1 e
  · rintro x ys σ h' ⟨Y, F, m, y9, y10, y11, y12, y13, e, hF, ef, hp', em, er, rfl⟩
    cases Y with
    | nil => cases e
    | cons q Y =>
      rw [List.map_cons] at e
      injection e with e6 e7
      subst e6
      simp only [as_tp, items_tup, ats_cons, ats_nil, as_nm, R.bind_ok, List.set_cons_succ, List.set_cons_zero]
      refine Ok.imp (turnS (k := k + 3) (l := q.1) (mo := q.2) ha hp em hp' (by simp at hF; omega)) fun fl h6 => ?_
      rintro ⟨M', y11', y12', y13', rfl, q1, q2, q3⟩
      exact ⟨Y, _, M', _, _, _, _, _, e7, by rw [shft_len]; simp at hF; omega, ef, q1, q2, q3 _ _ er, rfl⟩
  · rintro σ h' ⟨Y, F, m, y9, y10, y11, y12, y13, e, hF, ef, hp', em, er, rfl⟩
    cases Y with
    | cons q Y => cases e
    | nil =>
      have ef : F = hor a p (ZR.map fun p => p.2 - p.1) := by simpa using ef
      have hl : (F.map D.int).length ≤ 16777216 := by simp at hF ⊢; omega
      simp [seq_obj' em]
      rw [if_pos (by omega), compD_map (g := fun x => .bl (match x with | .int i => decide (0 ≤ i) | _ => false)) (dep1 em) _ (fun x mx => by
        obtain ⟨i, _, rfl⟩ := List.mem_map.mp mx
        simp [wipeE])]
      simp only [ok_ok, biL_all]
      refine ⟨?_, hp'⟩
      rw [← List.map_reverse, hr, ← ef]
      simp [List.all_map, Function.comp_def]
end K67

set_option Elab.async false
set_option linter.all false
set_option maxRecDepth 100000
set_option maxHeartbeats 4000000
namespace K67
open PySem Ev

/-- what is told at a place -/
def tv (es : List Int) (fs : List (List Fr)) (n : Nat) : Int := (toldF es fs n).getD 0
theorem toldF_some {es : List Int} {fs : List (List Fr)} {n : Nat} (hf : 0 < fs.length) : toldF es fs n = some (tv es fs n) := by
  unfold tv toldF
  split
  · rename_i c; simp [c]
  · simp [Nat.mod_lt _ hf]
def fsAt (fs : List (List Fr)) (a : Int) : List Fr := (fs[(a % (fs.length : Int)).toNat]?).getD []
theorem fsAt_ok {fs : List (List Fr)} {a : Int} (hf : 0 < fs.length) : L2.atI (fs.map fmD) (a % (fs.length : Int)) = some (fmD (fsAt fs a)) ∧ fsAt fs a ∈ fs := by
  have h1 := Int.emod_nonneg a (show (fs.length : Int) ≠ 0 by omega)
  have h2 := Int.emod_lt_of_pos a (show 0 < (fs.length : Int) by omega)
  obtain ⟨i, e⟩ : ∃ i : Nat, a % (fs.length : Int) = (i : Int) := ⟨(a % (fs.length : Int)).toNat, by omega⟩
  have hl : i < fs.length := by omega
  unfold fsAt
  rw [e, Int.toNat_natCast]
  constructor
  · rw [atI_nat (by simpa using hl)]
    simp [hl]
  · rw [List.getElem?_eq_getElem hl]
    exact List.getElem_mem hl
/-- the places rest, rest + per, .. below a -/
def plcs (r : Nat) (a per : Int) : List Nat := (List.range (Builtin.Range.rangeSize r a per).toNat).map fun i => r + i * per.toNat
theorem plcs_lt {r : Nat} {a per : Int} (hp : 1 ≤ per) {n : Nat} (h : n ∈ plcs r a per) : (n : Int) < a := by
  unfold plcs at h
  obtain ⟨i, hi, rfl⟩ := List.mem_map.mp h
  have hi := List.mem_range.mp hi
  unfold Builtin.Range.rangeSize at hi
  rw [if_pos (show per > 0 by omega)] at hi
  split at hi
  · have h1 : (i : Int) ≤ (a - r - 1) / per := by omega
    have h2 : (i : Int) * per ≤ (a - r - 1) / per * per := Int.mul_le_mul_of_nonneg_right h1 (by omega)
    have h3 := Int.ediv_mul_le (a - r - 1) (show per ≠ 0 by omega)
    have h4 : ((i * per.toNat : Nat) : Int) = (i : Int) * per := by rw [Int.natCast_mul, Int.toNat_of_nonneg (by omega)]
    omega
  · simp at hi
theorem rng_3 {r : Nat} {a per : Int} (hr : r < 1000) (ha : -1000000 < a ∧ a < 1000000) (hp : 1 ≤ per ∧ per < 1000) : rngop [.int r, .int a, .int per] = some ((plcs r a per).map fun n => .int (n : Nat)) := by
  have sm : Builtin.Range.small r a per = true := by
    have hn : 0 ≤ Builtin.Range.rangeSize r a per ∧ Builtin.Range.rangeSize r a per ≤ 1000000 := by
      unfold Builtin.Range.rangeSize
      rw [if_pos (show per > 0 by omega)]
      split
      · have h1 : 0 ≤ (a - r - 1) / per := Int.ediv_nonneg (by omega) (by omega)
        have h2 : (a - r - 1) / per ≤ a - r - 1 := Int.ediv_le_self _ (by omega)
        omega
      · omega
    unfold Builtin.Range.small
    simp only [Builtin.Range.rangeFitsLong, Bool.and_eq_true, Bool.or_eq_true, decide_eq_true_eq, beq_iff_eq]
    rw [if_pos (show per > 0 by omega)]
    simp only [Bool.and_eq_true, decide_eq_true_eq]
    omega
  simp only [rngop]
  rw [if_pos ⟨by omega, by omega, sm⟩]
  refine congrArg some ?_
  unfold plcs rangeD
  rw [List.map_map]
  apply List.map_congr_left
  intro i _
  show D.int _ = D.int _
  refine congrArg D.int ?_
  rw [Int.natCast_add, Int.natCast_mul, Int.toNat_of_nonneg (by omega)]
/-- one start, held against each clause -/
def startB (es : List Int) (fs : List (List Fr)) (es' : List Int) (fs' : List (List Fr)) (per : Int) (rest : Nat) : D → Bool
  | .int a => decide ((max es.length es'.length : Nat) ≤ a) && decide (a ≤ 1000) && decide (a % per = rest) && staysB (fsAt fs a) (fsAt fs' a) a per && (plcs rest a per).all fun n => decide (tv es fs n ≤ tv es' fs' n)
  | _ => false
def certB (es : List Int) (fs : List (List Fr)) (es' : List Int) (fs' : List (List Fr)) : D → Bool
  | .tup xs => decide ((xs.length : Int) = lcmI fs.length fs'.length) && ((List.range xs.length).all fun i => match xs[i]? with
    | some x => startB es fs es' fs' (lcmI fs.length fs'.length) i x
    | none => true)
  | _ => false
theorem cert_false {es es' : List Int} {fs fs' : List (List Fr)} {xs : List D} {j : Nat} {z : D} (h : xs[j]? = some z) (b : startB es fs es' fs' (lcmI fs.length fs'.length) j z = false) : certB es fs es' fs' (.tup xs) = false := by
  have hj : j < xs.length := (List.getElem?_eq_some_iff.mp h).1
  simp only [certB, Bool.and_eq_false_iff]
  refine .inr ?_
  rw [List.all_eq_false]
  exact ⟨j, List.mem_range.mpr hj, by simp only [h]; simp [b]⟩
theorem cert_true {es es' : List Int} {fs fs' : List (List Fr)} {xs : List D} (hl : (xs.length : Int) = lcmI fs.length fs'.length) (b : ∀ i x, i < xs.length → xs[i]? = some x → startB es fs es' fs' (lcmI fs.length fs'.length) i x = true) : certB es fs es' fs' (.tup xs) = true := by
  simp only [certB, Bool.and_eq_true]
  refine ⟨decide_eq_true hl, ?_⟩
  rw [List.all_eq_true]
  intro i hi
  have hi := List.mem_range.mp hi
  rw [List.getElem?_eq_getElem hi]
  exact b i _ hi (List.getElem?_eq_getElem hi)

theorem map_all {fs : List (List Fr)} {a : Int} : biop .len [fsD fs] = fun h => .ok (.int fs.length) h := by
  funext h
  unfold fsD; rw [bi_len_tup, List.length_map]
theorem lcm_small {a b : Nat} (ha : 1 ≤ a ∧ a < 100) (hb : 1 ≤ b ∧ b < 100) : 1 ≤ lcmI a b ∧ lcmI a b < 10000 := by
  unfold lcmI
  have h1 := gcd_pos' (a := (a : Int)) (b := (b : Int)) (by omega)
  have h2 := Int.gcd_dvd_left (a : Int) (b : Int)
  have h3 : 1 ≤ (a : Int) / (Int.gcd (a : Int) (b : Int) : Int) := by
    have := Int.le_of_dvd (by omega) h2
    exact (Int.le_ediv_iff_mul_le h1).mpr (by omega)
  have h4 : (a : Int) / (Int.gcd (a : Int) (b : Int) : Int) ≤ a := Int.ediv_le_self _ (by omega)
  have h5 : (a : Int) / (Int.gcd (a : Int) (b : Int) : Int) * b ≤ 99 * 99 := Int.mul_le_mul (by omega) (by omega) (by omega) (by omega)
  have h6 : 1 * 1 ≤ (a : Int) / (Int.gcd (a : Int) (b : Int) : Int) * b := Int.mul_le_mul h3 (by omega) (by omega) (by omega)
  omega
/-- early numbers and forms that the checker takes -/
structure Good (es : List Int) (fs : List (List Fr)) : Prop where
  v : ∀ f ∈ fs, VF f ∧ f.length ≤ 13 ∧ isFm (fmD f) = true
  hf : 0 < fs.length
  hl : fs.length < 100
  he : es.length < 100
theorem s_at_most {k : Nat} {h : Hh} {es es' : List Int} {fs fs' : List (List Fr)} {x0 cert : D} (g : Good es fs) (g' : Good es' fs') (t : tAll es.length fs = true) (t' : tAll es'.length fs' = true) (hper : lcmI fs.length fs'.length < 1000)
    (hc : (tyName h cert).isSome = true) (hc2 : ∀ xs, cert = .tup xs → ∀ x ∈ xs, D.lt 0 x = true) (hc3 : ∀ xs, cert = .tup xs → xs.length < 1000) : callF P 100 (k + 7) 16 [.tup [x0, .tup (es.map .int), fsD fs, .tup (es'.map .int), fsD fs'], cert] h = .ok (.bl (certB es fs es' fs' cert)) h := by
  refine call_pure (fd := p_at_most_shown) rfl rfl rfl ?_
  have e1 := s_is_told (k := k) (h := h) (es := es) (fs := fs) g.v g.hf g.hl g.he
  have e2 := s_is_told (k := k) (h := h) (es := es') (fs := fs') g'.v g'.hf g'.hl g'.he
  rw [t] at e1
  rw [t'] at e2
  have hf := g.hf
  have hf' := g'.hf
  have hl := g.hl
  have hl' := g'.hl
  have he := g.he
  have he' := g'.he
  have lp := lcm_small (a := fs.length) (b := fs'.length) (by omega) (by omega)
  have e3 := s_lcm (k := k + 4) (h := h) (a := (fs.length : Int)) (b := (fs'.length : Int)) (by omega) (by omega) (by omega)
  have e0 : ∀ h : Hh, biop .len [fsD fs] h = .ok (.int fs.length) h := fun h => by unfold fsD; rw [bi_len_tup, List.length_map]
  have e0' : ∀ h : Hh, biop .len [fsD fs'] h = .ok (.int fs'.length) h := fun h => by unfold fsD; rw [bi_len_tup, List.length_map]
  have d1 : (es.map D.int).length = es.length := List.length_map ..
  have d2 : (es'.map D.int).length = es'.length := List.length_map ..
  have b3 : ∀ h : Hh, biop .max [.int es.length, .int es'.length] h = .ok (.int (max es.length es'.length : Nat)) h := fun h => by
    simp only [biop]
    congr 2
    split <;> omega
  have hs : slop h (.tup [x0, .tup (es.map .int), fsD fs, .tup (es'.map .int), fsD fs']) (some 1) none = .ok (.tup [.tup (es.map .int), fsD fs, .tup (es'.map .int), fsD fs']) h := rfl
  generalize hper2 : lcmI fs.length fs'.length = per at *
  generalize hmst : max es.length es'.length = mst at *
  have m1 : ∀ h : Hh, tyName h cert = tyName h cert := fun _ => rfl
  simp [p_at_most_shown, hs, e1, e2, e3, e0, e0', d1, d2, b3, setAll]
  cases ct : cert with
  | tup xs =>
    subst ct
    have hn := hc3 xs rfl
    by_cases cl : (xs.length : Int) = per
    · simp [cl]
      have hx : ∀ i x, xs[i]? = some x → D.lt 0 x = true := fun i x e => hc2 xs rfl x (List.mem_of_getElem? e)
      refine loop_ok _ (fun ys σ h' => h' = h ∧ ∃ (zs : List D) (j : Nat) (a b c : Option D), ys = enumD j zs ∧ xs.drop j = zs ∧ (∀ i x, i < j → xs[i]? = some x → startB es fs es' fs' per i x = true) ∧
        σ = [some (.tup [x0, .tup (es.map .int), fsD fs, .tup (es'.map .int), fsD fs']), some (.tup xs), some (.tup (es.map .int)), some (fsD fs), some (.tup (es'.map .int)), some (fsD fs'), some (.int per), some (.int mst), a, b, c]) _ _ ⟨rfl, xs, 0, none, none, none, rfl, rfl, by intro i x hi; omega, rfl⟩ (fun _ _ _ _ => rfl) ?_ ?_
      · rintro x ys σ h' ⟨rfl, zs, j, a0, b0, c0, e, hz, ha, rfl⟩
        cases zs with
        | nil => cases e
        | cons z zs =>
          simp only [enumD] at e
          injection e with e4 e5
          subst e4
          have hj : j < xs.length := by
            by_cases c : j < xs.length
            · exact c
            · rw [List.drop_eq_nil_of_le (by omega)] at hz; cases hz
          have hzj : xs[j]? = some z := by
            have := congrArg (fun l : List D => l[0]?) hz
            simpa using this
          have hzs : xs.drop (j + 1) = zs := by
            have := congrArg List.tail hz
            simpa using this
          have bz := s_is_between (w := 100) (k := k + 4) (h := h') (d := z) (lo := (mst : Int)) (hi := some 1000) (tyName_lt (hx j z hzj))
          have q0 : hiD (some 1000) = .int 1000 := rfl
          rw [q0] at bz
          have no : startB es fs es' fs' per j z = false → certB es fs es' fs' (.tup xs) = false := fun b => cert_false hzj (by rw [hper2]; exact b)
          simp [bz]
          by_cases c1 : btw (mst : Int) (some 1000) z = true
          · obtain ⟨a, rfl, q1, q2⟩ : ∃ a, z = .int a ∧ (mst : Int) ≤ a ∧ a ≤ 1000 := by
              cases z with
              | int a => simp [btw] at c1; exact ⟨a, rfl, c1.1, c1.2⟩
              | _ => simp [btw] at c1
            simp [c1, bin_mod (i := a) (show 0 < per by omega)]
            by_cases c2 : a % per = (j : Int)
            · have s1 := fsAt_ok (fs := fs) (a := a) hf
              have s2 := fsAt_ok (fs := fs') (a := a) hf'
              have s3 := s_stays (k := k + 2) (h := h') (f := fsAt fs a) (g := fsAt fs' a) (a := a) (p := per) (g.v _ s1.2).1 (g'.v _ s2.2).1 (by have := (g.v _ s1.2).2.1; omega) (by have := (g'.v _ s2.2).2.1; omega) (by constructor <;> omega) (by constructor <;> omega)
              have i1 : itemsOf h' (fsD fs) = some (fs.map fmD) := rfl
              have i2 : itemsOf h' (fsD fs') = some (fs'.map fmD) := rfl
              simp [c2, e0, e0', i1, i2, bin_mod (i := a) (show 0 < (fs.length : Int) by omega), bin_mod (i := a) (show 0 < (fs'.length : Int) by omega), s1.1, s2.1, s3]
              cases c3 : staysB (fsAt fs a) (fsAt fs' a) a per with
              | true =>
                simp [rng_3 (r := j) (a := a) (per := per) (by omega) (by omega) (by omega)]
                refine loop_ok _ (fun ys σ h2 => h2 = h' ∧ ∃ (ns dn : List Nat) (y : Option D), plcs j a per = dn ++ ns ∧ ys = ns.map (fun n => .int (n : Nat)) ∧ (∀ n ∈ dn, tv es fs n ≤ tv es' fs' n) ∧
                  σ = [some (.tup [x0, .tup (es.map .int), fsD fs, .tup (es'.map .int), fsD fs']), some (.tup xs), some (.tup (es.map .int)), some (fsD fs), some (.tup (es'.map .int)), some (fsD fs'), some (.int per), some (.int mst), some (.int j), some (.int a), y]) _ _ ⟨rfl, plcs j a per, [], _, rfl, rfl, by simp, rfl⟩ (fun _ _ _ _ => rfl) ?_ ?_
                · rintro x ys σ h2 ⟨rfl, ns, dn, y, ep, e6, hd, rfl⟩
                  cases ns with
                  | nil => cases e6
                  | cons n ns =>
                    rw [List.map_cons] at e6
                    injection e6 with e7 e8
                    subst e7
                    have hn : (n : Int) < a := plcs_lt (by omega) (by rw [ep]; simp : n ∈ plcs j a per)
                    have w1 := s_told_at (k := k + 1) (h := h2) (es := es) (fs := fs) (n := n) (fun f hf => ⟨(g.v f hf).1, by have := (g.v f hf).2.1; omega⟩) hf (by omega) (toldF_some hf)
                    have w2 := s_told_at (k := k + 1) (h := h2) (es := es') (fs := fs') (n := n) (fun f hf => ⟨(g'.v f hf).1, by have := (g'.v f hf).2.1; omega⟩) hf' (by omega) (toldF_some hf')
                    simp [w1, w2]
                    by_cases c4 : tv es fs n ≤ tv es' fs' n
                    · have c5 : ¬ tv es' fs' n < tv es fs n := by omega
                      simp [c5]
                      refine ⟨ns, dn ++ [n], by rw [ep]; simp, e8, fun i hi => ?_⟩
                      rcases List.mem_append.mp hi with hi | hi
                      · exact hd i hi
                      · have : i = n := by simpa using hi
                        subst this; exact c4
                    · have c5 : tv es' fs' n < tv es fs n := by omega
                      simp [c5]
                      refine no ?_
                      simp only [startB, Bool.and_eq_false_iff]
                      refine .inr ?_
                      rw [List.all_eq_false]
                      exact ⟨n, by rw [ep]; simp, by simpa using c4⟩
                · rintro σ h2 ⟨rfl, ns, dn, y, ep, e6, hd, rfl⟩
                  cases ns with
                  | cons n ns => cases e6
                  | nil =>
                    simp
                    refine ⟨zs, j + 1, e5, hzs, fun i x hi hx => ?_⟩
                    rcases Nat.lt_succ_iff_lt_or_eq.mp hi with hi | rfl
                    · exact ha i x hi hx
                    · rw [hzj] at hx
                      cases hx
                      simp only [startB, hmst, c2, c3, Bool.and_eq_true, decide_eq_true_eq]
                      refine ⟨⟨⟨⟨q1, q2⟩, trivial⟩, trivial⟩, ?_⟩
                      rw [List.all_eq_true, ep]
                      intro n hn
                      simpa using hd n (by simpa using hn)
              | false =>
                simp
                exact no (by simp [startB, c3])
            · simp [c2]
              exact no (by simp [startB, c2])
          · simp [c1]
            refine no ?_
            cases z with
            | int a =>
              have c1 : ¬ ((mst : Int) ≤ a ∧ a ≤ 1000) := by simpa [btw] using c1
              simp only [startB, hmst]
              by_cases q1 : (mst : Int) ≤ a
              · have q2 : ¬ a ≤ 1000 := fun q => c1 ⟨q1, q⟩
                simp [q2]
              · simp [q1]
            | _ => rfl
      · rintro σ h' ⟨rfl, zs, j, a0, b0, c0, e, hz, ha, rfl⟩
        cases zs with
        | cons z zs => simp [enumD] at e
        | nil =>
          have := List.drop_eq_nil_iff.mp hz
          simp
          exact (cert_true (by rw [hper2]; exact cl) fun i x hi hx => by rw [hper2]; exact ha i x (by omega) hx)
    · simp [cl, certB, hper2]
  | obj n =>
    subst ct
    obtain ⟨ty, hty⟩ := Option.isSome_iff_exists.mp hc
    have : ty = "list" := by
      simp only [tyName] at hty
      split at hty
      · cases hty; rfl
      · cases hty
    subst this
    simp [hty, certB]
  | _ => simp [certB]
end K67

set_option Elab.async false
set_option linter.all false
set_option maxRecDepth 100000
set_option maxHeartbeats 4000000
namespace K67
open PySem Ev

theorem ty_cases {h : Hh} {d : D} (hd : (tyName h d).isSome = true) : (∃ xs, d = .tup xs) ∨ ∃ t, tyName h d = some t ∧ t ≠ "tuple" := by
  cases d with
  | tup xs => exact .inl ⟨xs, rfl⟩
  | obj n =>
    refine .inr ?_
    simp only [tyName] at hd ⊢
    split at hd
    · exact ⟨_, rfl, by decide⟩
    · cases hd
  | _ => exact .inr ⟨_, rfl, by decide⟩
/-- not early numbers -/
structure BadE (h : Hh) (d : D) : Prop where
  ty : (tyName h d).isSome = true
  tup : ∀ xs, d = .tup xs → xs.length ≤ 1000 ∧ (∀ x ∈ xs, (tyName h x).isSome = true) ∧ xs.all isI = false
theorem s_told_badE {k : Nat} {h : Hh} {d F : D} (b : BadE h d) : callF P 100 (k + 2) 13 [d, F] h = .ok (.bl false) h := by
  refine call_pure (fd := p_is_told) rfl rfl rfl ?_
  rcases ty_cases b.ty with ⟨xs, rfl⟩ | ⟨t, e, ne⟩
  · obtain ⟨h1, h2, h3⟩ := b.tup xs rfl
    simp [p_is_told]
    rw [if_pos (by omega), compD_map (g := fun x => .bl (isI x)) rfl xs (fun x m => by simp [wipeE, s_is_integer (w := 100) (k := k) (h2 x m)])]
    simp only [ok_ok, biL_all, h3]
    simp
  · have ne' : (t == "tuple") = false := by simp [ne]
    simp [p_is_told, e, ne']
/-- what may stand where a form is looked for -/
structure FmA (x : D) : Prop where
  lt : D.lt 0 x = true
  tup : ∀ xs, x = .tup xs → xs.length ≤ 1000 ∧ cln 3 x = true ∧ ∀ t b, .tup [.int t, .int b] ∈ xs → b < 100
/-- not forms -/
structure BadF (h : Hh) (d : D) : Prop where
  ty : (tyName h d).isSome = true
  tup : ∀ xs, d = .tup xs → xs ≠ [] ∧ xs.length ≤ 1000 ∧ cln 4 d = true ∧ (∀ x ∈ xs, FmA x) ∧ xs.all isFm = false
theorem s_told_badF {k : Nat} {h : Hh} {es : List Int} {F : D} (he : es.length ≤ 1000) (b : BadF h F) : callF P 100 (k + 6) 13 [.tup (es.map .int), F] h = .ok (.bl false) h := by
  refine call_pure (fd := p_is_told) rfl rfl rfl ?_
  have hes : (es.map D.int).length ≤ 16777216 := by simp; omega
  rcases ty_cases b.ty with ⟨xs, rfl⟩ | ⟨t, e, ne⟩
  · obtain ⟨h1, h2, h3, h4, h5⟩ := b.tup xs rfl
    have e2 : ∀ h : Hh, cmpop h .eq (.tup xs) (.tup []) = some false := fun h => by
      rw [cmp_eq, eqD_cln h3 (show cln 4 (.tup []) = true from by decide) (by decide) (by intro a e; cases e)]
      cases xs with
      | nil => exact absurd rfl h1
      | cons f fs => simp [pd, pds, PyData.eqv, PyData.eqvAll]
    simp [p_is_told]
    rw [if_pos (by omega), compD_map (g := fun x => .bl (isI x)) rfl (es.map D.int) (fun x m => by
      obtain ⟨i, _, rfl⟩ := List.mem_map.mp m
      simp [wipeE, s_is_integer (w := 100) (k := k + 4) (h := h) (d := .int i) rfl])]
    simp only [ok_ok, biL_all, isI_map]
    simp [e2]
    rw [if_pos (by omega), compD_map (g := fun x => .bl (isFm x)) rfl xs (fun x m => by
      have q := h4 x m
      have s := s_is_form (k := k + 1) (h := h) q.lt (fun ys e => by have := (q.tup ys e).1; omega) (fun ys e _ => (q.tup ys e).2.1) (fun ys e => (q.tup ys e).2.2)
      simp [wipeE, s])]
    simp only [ok_ok, biL_all, h5]
    simp
  · simp [p_is_told]
    rw [if_pos (by omega), compD_map (g := fun x => .bl (isI x)) rfl (es.map D.int) (fun x m => by
      obtain ⟨i, _, rfl⟩ := List.mem_map.mp m
      simp [wipeE, s_is_integer (w := 100) (k := k + 4) (h := h) (d := .int i) rfl])]
    simp only [ok_ok, biL_all, isI_map]
    have ne' : (t == "tuple") = false := by simp [ne]
    simp [e, ne']
/-- told and taken, or refused -/
structure Told (h : Hh) (E F : D) (b : Bool) : Prop where
  run : ∀ k, callF P 100 (k + 6) 13 [E, F] h = .ok (.bl b) h
theorem s_at_most_bad {k : Nat} {h : Hh} {x0 E F E' F' cert : D} {b b' : Bool} (t : Told h E F b) (t' : Told h E' F' b') (n : (b && b') = false) : callF P 100 (k + 7) 16 [.tup [x0, E, F, E', F'], cert] h = .ok (.bl false) h := by
  refine call_pure (fd := p_at_most_shown) rfl rfl rfl ?_
  have hs : slop h (.tup [x0, E, F, E', F']) (some 1) none = .ok (.tup [E, F, E', F']) h := rfl
  have e1 := t.run k
  have e2 := t'.run k
  cases b with
  | false => simp [p_at_most_shown, hs, e1]
  | true =>
    cases b' with
    | false => simp [p_at_most_shown, hs, e1, e2]
    | true => cases n
/-- the word of such claims -/
def kw : Str := "at most"
theorem kw1 : ¬ kw = ("placed" : Str) := by decide +kernel
theorem kw2 : ¬ kw = ("counts" : Str) := by decide +kernel
theorem s_accepts {k : Nat} {h : Hh} {E F E' F' cert : D} {r : Bool} (a : callF P 100 (k + 7) 16 [.tup [.str kw, E, F, E', F'], cert] h = .ok (.bl r) h) : callF P 100 (k + 8) 17 [.tup [.str kw, E, F, E', F'], cert] h = .ok (.bl r) h := by
  refine call_pure (fd := p_accepts) rfl rfl rfl ?_
  have k3 : kw = ("at most" : Str) := rfl
  simp [p_accepts, kw1, kw2, a]
  simp [← k3]
/-- claims that are none at all -/
inductive NoClaim (h : Hh) : D → Prop
  | len (xs : List D) : xs.length ≠ 5 → NoClaim h (.tup xs)
  | word (z : Str) (E F E' F' : D) : z ≠ kw → z ≠ ("placed" : Str) → z ≠ ("counts" : Str) → NoClaim h (.tup [.str z, E, F, E', F'])
  | lst (n : Nat) (xs : List D) : h[n]? = some (.lst xs) → NoClaim h (.obj n)
theorem s_accepts_no {k : Nat} {h : Hh} {c cert : D} (n : NoClaim h c) : callF P 100 (k + 1) 17 [c, cert] h = .ok (.bl false) h := by
  refine call_pure (fd := p_accepts) rfl rfl rfl ?_
  cases n with
  | len xs hl =>
    have c : ¬ ((xs.length : Int) = 5) := by omega
    simp [p_accepts, c]
  | word z E F E' F' n1 n2 n3 =>
    have k3 : kw = ("at most" : Str) := rfl
    simp [p_accepts, n2, n3]
    simp [← k3, n1]
  | lst n xs e => simp [p_accepts, ty_obj e]
end K67

set_option Elab.async false
set_option linter.all false
set_option maxRecDepth 100000
set_option maxHeartbeats 4000000
namespace K67
open PySem Ev

/-! ### the law's own: draws -/
/-- a purse stands at q -/
def PurseAt (h : Hh) (q : Nat) : Prop := ∃ d s t : Int, h[q]? = some (.lst [.int d, .int s, .int t]) ∧ 0 ≤ d ∧ 0 ≤ s ∧ s < 1000000007
/-- only the purse may be another -/
structure Kp (q : Nat) (h h' : Hh) : Prop where
  le : h.length ≤ h'.length
  at_ : ∀ (j : Nat) (o : O), j ≠ q → h[j]? = some o → h'[j]? = some o
theorem Kp.refl {q : Nat} {h : Hh} : Kp q h h := ⟨Nat.le_refl _, fun _ _ _ e => e⟩
theorem Kp.trans {q : Nat} {a b c : Hh} (x : Kp q a b) (y : Kp q b c) : Kp q a c := ⟨Nat.le_trans x.le y.le, fun j o n e => y.at_ j o n (x.at_ j o n e)⟩
theorem Kp.pre {q : Nat} {a b : Hh} (p : a <+: b) : Kp q a b := ⟨p.length_le, fun _ _ _ e => Pre.get p e⟩
theorem fin_len {h h' : Hh} {d : D} (e : h'.length = h.length) : fin h d h' = .ok d h' := by
  unfold fin
  split
  · rename_i c
    have : h'.take h.length = h' := by rw [← e]; simp
    rw [this] at c
    rw [c.2]
  · rfl
theorem s_draw {k : Nat} {h : Hh} {q : Nat} {m : Int} (p : PurseAt h q) (hm : 1 ≤ m ∧ m < 1000) : Ok (callF P 100 (k + 1) 19 [.obj q, .int m] h) fun r h' => ∃ i : Int, r = .int i ∧ 0 ≤ i ∧ i < m ∧ PurseAt h' q ∧ h'.length = h.length ∧ Kp q h h' := by
  obtain ⟨d, s, t, e, d0, s0, s1⟩ := p
  have hq : q < h.length := (List.getElem?_eq_some_iff.mp e).1
  refine call_ok (fd := f_law_draw) rfl rfl ?_
  have g : ∀ (h : Hh) (a b c : Int), h[q]? = some (.lst [.int a, .int b, .int c]) → itemsOf h (.obj q) = some [.int a, .int b, .int c] := fun h a b c e => items_obj e
  have st : ∀ (h : Hh) (a b c x : Int), h[q]? = some (.lst [.int a, .int b, .int c]) → setop h (.obj q) (.int 0) (.int x) = .ok () (h.set q (.lst [.int x, .int b, .int c])) ∧ setop h (.obj q) (.int 1) (.int x) = .ok () (h.set q (.lst [.int a, .int x, .int c])) ∧ setop h (.obj q) (.int 2) (.int x) = .ok () (h.set q (.lst [.int a, .int b, .int x])) := by
    intro h a b c x e
    simp only [setop, e]
    exact ⟨rfl, rfl, rfl⟩
  have kp : ∀ o : O, Kp q h (h.set q o) := fun o => ⟨by simp, fun j u n e => by rw [List.getElem?_set_ne (Ne.symm n)]; exact e⟩
  have sq : ∀ o : O, (h.set q o)[q]? = some o := fun o => List.getElem?_set_self hq
  -- the third, then the second
  have u1 := (st h d s t (t + 1) e).2.2
  have e1 := sq (.lst [.int d, .int s, .int (t + 1)])
  generalize hs' : (s * (s / 97 + 50023) + 7919 * (t + 1) + 1) % 1000000007 = s'
  have b0 : 0 ≤ s' := by rw [← hs']; exact Int.emod_nonneg _ (by decide)
  have b1 : s' < 1000000007 := by rw [← hs']; exact Int.emod_lt_of_pos _ (by decide)
  have u2 := (st (h.set q (.lst [.int d, .int s, .int (t + 1)])) d s (t + 1) s' e1).2.1
  rw [List.set_set] at u2
  have e2 := sq (.lst [.int d, .int s', .int (t + 1)])
  have r0 : 0 ≤ s' / 911 % m := Int.emod_nonneg _ (by omega)
  have r1 : s' / 911 % m < m := Int.emod_lt_of_pos _ (by omega)
  simp [f_law_draw, g _ _ _ _ e, u1, g _ _ _ _ e1, bin_fdiv (i := s) (show (0 : Int) < 97 by decide) (by decide), bin_mul_l (i := s) (j := s / 97 + 50023) (by constructor <;> omega), bin_mul_l (i := 7919) (j := t + 1) (by decide), bin_mod (j := 1000000007) (by decide), hs', u2, g _ _ _ _ e2]
  by_cases c : 0 < d
  · have dm : ∀ h : Hh, biop .divmod [.int d, .int m] h = .ok (.tup [.int (d / m), .int (d % m)]) h := fun h => by
      simp only [biop]
      rw [if_pos ⟨by omega, by omega⟩]
    have u3 := (st (h.set q (.lst [.int d, .int s', .int (t + 1)])) d s' (t + 1) (d / m) e2).1
    rw [List.set_set] at u3
    have e3 := sq (.lst [.int (d / m), .int s', .int (t + 1)])
    simp [c, dm, u3]
    rw [fin_len (by simp)]
    refine ⟨d % m, rfl, Int.emod_nonneg _ (by omega), Int.emod_lt_of_pos _ (by omega), ⟨_, _, _, e3, Int.ediv_nonneg (by omega) (by omega), b0, b1⟩, by simp, kp _⟩
  · simp [c, g _ _ _ _ e2, bin_fdiv (i := s') (show (0 : Int) < 911 by decide) (by decide), bin_mod (i := s' / 911) (show 0 < m by omega)]
    rw [fin_len (by simp)]
    exact ⟨_, rfl, r0, r1, ⟨_, _, _, e2, d0, b0, b1⟩, by simp, kp _⟩

/-! ### the law's own: polynomials -/
def sixths (r : List Int) : List Int := match r with
  | [a, b, c, d] => [6 * a, 6 * b - 3 * c + 2 * d, 3 * c - 3 * d, d]
  | _ => []
/-- a row stands at n -/
def RowAt (h : Hh) (n : Nat) (r : List Int) : Prop := h[n]? = some (.lst (r.map .int))
def Row (r : List Int) : Prop := r.length = 4 ∧ ∀ x ∈ r, -100 ≤ x ∧ x ≤ 100
theorem Row.four {r : List Int} (h : Row r) : ∃ a b c d : Int, r = [a, b, c, d] ∧ (-100 ≤ a ∧ a ≤ 100) ∧ (-100 ≤ b ∧ b ≤ 100) ∧ (-100 ≤ c ∧ c ≤ 100) ∧ (-100 ≤ d ∧ d ≤ 100) := by
  obtain ⟨hl, hb⟩ := h
  match r, hl with
  | [a, b, c, d], _ => exact ⟨a, b, c, d, rfl, hb a (by simp), hb b (by simp), hb c (by simp), hb d (by simp)⟩
theorem s_sixths {k : Nat} {h : Hh} {n : Nat} {r : List Int} (e : RowAt h n r) (hr : Row r) : callF P 100 (k + 1) 22 [.obj n] h = .ok (.obj h.length) (h ++ [.lst ((sixths r).map .int)]) := by
  obtain ⟨a, b, c, d, rfl, ha, hb, hc, hd⟩ := hr.four
  refine ok_eq.mpr (call_ok (fd := f_law_sixths) rfl rfl ?_)
  have g : itemsOf h (.obj n) = some [.int a, .int b, .int c, .int d] := items_obj e
  simp [f_law_sixths, g, bin_mul_l (i := 6) (j := a) (by decide), bin_mul_l (i := 6) (j := b) (by decide), bin_mul_l (i := 3) (j := c) (by decide), bin_mul_l (i := 2) (j := d) (by decide), bin_mul_l (i := 3) (j := d) (by decide)]
  rw [fin_new (show D.lt h.length (.obj h.length) = false by simp [D.lt])]
  simp [sixths]
/-- top over six, in lowest terms -/
def lowest (t : Int) : Fr := (t / (Int.gcd t 6 : Int), 6 / (Int.gcd t 6 : Int))
theorem s_lowest {k : Nat} {h : Hh} {t : Int} : callF P 100 (k + 1) 21 [.int t, .int 6] h = .ok (frD (lowest t)) h := by
  refine call_pure (fd := f_law_lowest) rfl rfl rfl ?_
  have gp := gcd_pos' (a := t) (b := 6) (by decide)
  have gl := Int.gcd_le_right t (show (0 : Int) < 6 by decide)
  have ha : 0 ≤ (if t < 0 then -t else t) ∧ Int.gcd (if t < 0 then -t else t) 6 = Int.gcd t 6 := by
    constructor
    · split <;> omega
    · split <;> simp
  generalize hA : (if t < 0 then -t else t) = A at ha
  simp [f_law_lowest, setAll, hA]
  refine while_ok (fun m σ h' => h' = h ∧ ∃ x y : Int, 0 ≤ x ∧ 0 ≤ y ∧ σ = [some (.int t), some (.int 6), some (.int x), some (.int y)] ∧ (Int.gcd x y : Int) = Int.gcd t 6 ∧ m = y.toNat) ?_ 100 6 _ h (by decide) ⟨rfl, A, 6, ha.1, by decide, rfl, by rw [ha.2], rfl⟩
  rintro m σ h' ⟨rfl, x, y, hx, hy, rfl, e, rfl⟩
  by_cases c : 0 < y
  · have h1 := Int.emod_nonneg x (show y ≠ 0 by omega)
    have h2 := Int.emod_lt_of_pos x c
    simp [c, setAll, bin_mod (i := x) c]
    refine ⟨(x % y).toNat, by omega, y, by omega, x % y, by omega, ⟨rfl, rfl⟩, ?_, rfl⟩
    rw [gcd_step x y c]; exact e
  · have : y = 0 := by omega
    subst this
    have ex : x = (Int.gcd t 6 : Int) := by
      rw [← e]
      simp [Int.natAbs_of_nonneg hx]
    simp [ex, bin_fdiv (i := t) gp (by omega), bin_fdiv (i := 6) gp (by omega), frD, lowest]
end K67

set_option Elab.async false
set_option linter.all false
set_option maxRecDepth 100000
set_option maxHeartbeats 4000000
namespace K67
open PySem Ev

theorem toP_obj {h : Hh} {n k : Nat} {xs : List D} (e : h[n]? = some (.lst xs)) (c : D.lts 0 xs = true) : toP h (k + 1) (.obj n) = some (.list (pds xs)) := by
  rw [toP, e]
  simp only [toPs_pds k xs c]
  rfl
theorem eqD_obj {h : Hh} {n m : Nat} {xs ys : List D} (e1 : h[n]? = some (.lst xs)) (e2 : h[m]? = some (.lst ys)) (c1 : clns 7 xs = true) (c2 : clns 7 ys = true) : eqD h (.obj n) (.obj m) = some (PyData.eqvAll (pds xs) (pds ys)) := by
  have d1 : D.lts 0 xs = true ∧ PyData.canLayAll0 (pds xs) = true ∧ PyData.depthAll (pds xs) ≤ 7 := by
    unfold clns at c1; simp only [Bool.and_eq_true, decide_eq_true_eq] at c1; exact ⟨c1.1.1, c1.1.2, c1.2⟩
  have d2 : D.lts 0 ys = true ∧ PyData.canLayAll0 (pds ys) = true ∧ PyData.depthAll (pds ys) ≤ 7 := by
    unfold clns at c2; simp only [Bool.and_eq_true, decide_eq_true_eq] at c2; exact ⟨c2.1.1, c2.1.2, c2.2⟩
  have e : eqD h (.obj n) (.obj m) = match toP h 8 (.obj n), toP h 8 (.obj m) with
    | some p, some q => if SeqAt.shaped p = true ∧ SeqAt.shaped q = true then some (PyData.eqv p q) else none
    | _, _ => none := rfl
  rw [e, toP_obj e1 d1.1, toP_obj e2 d2.1]
  have s : ∀ zs : List D, PyData.canLayAll0 (pds zs) = true → PyData.depthAll (pds zs) ≤ 7 → SeqAt.shaped (.list (pds zs)) = true := by
    intro zs h1 h2
    unfold SeqAt.shaped
    simp [PyData.canLay0, PyData.depth, h1]
    omega
  simp only
  rw [if_pos ⟨s xs d1.2.1 d1.2.2, s ys d2.2.1 d2.2.2⟩]
  simp [PyData.eqv]
theorem clns_int (n : Nat) (xs : List Int) : clns n (xs.map .int) = true := by
  rw [clns_all, List.all_map, List.all_eq_true]
  intro x _
  simp
theorem cmp_nil {h : Hh} {n m : Nat} {xs : List Int} (e1 : h[n]? = some (.lst (xs.map .int))) (e2 : h[m]? = some (.lst [])) : cmpop h .ne (.obj n) (.obj m) = some (!xs.isEmpty) := by
  rw [cmp_ne, eqD_obj e1 e2 (clns_int 7 xs) (by decide)]
  cases xs <;> simp [pds, PyData.eqvAll]
/-- zeros at the end dropped -/
def strip : List Int → List Int
  | [] => []
  | x :: xs => match strip xs with
    | [] => if x = 0 then [] else [x]
    | y :: ys => x :: y :: ys
theorem strip_snoc : ∀ xs : List Int, strip (xs ++ [0]) = strip xs
  | [] => rfl
  | x :: xs => by rw [List.cons_append, strip, strip_snoc xs, strip]
theorem strip_last : ∀ (xs : List Int) (x : Int), x ≠ 0 → strip (xs ++ [x]) = xs ++ [x]
  | [], x, h => by simp [strip, h]
  | y :: xs, x, h => by
    rw [List.cons_append, strip, strip_last xs x h]
    cases xs <;> rfl
def formF (r : List Int) : List Fr := (strip (sixths r)).map lowest
theorem strip_len : ∀ xs : List Int, (strip xs).length ≤ xs.length
  | [] => Nat.le_refl _
  | x :: xs => by
    have := strip_len xs
    rw [strip]
    split
    · split <;> simp
    · rename_i e; rw [e] at this; simp at this ⊢; omega
theorem s_form_of {k : Nat} {h : Hh} {n : Nat} {r : List Int} (e : RowAt h n r) (hr : Row r) : callF P 100 (k + 2) 23 [.obj n] h = .ok (fmD (formF r)) h := by
  refine call_pure (fd := f_law_form_of) rfl rfl (lts_zero_mono (cln_lt (cln_fm (f := formF r)))) ?_
  have e1 := s_sixths (k := k) e hr
  have hs : (sixths r).length = 4 := by obtain ⟨a, b, c, d, rfl, _⟩ := hr.four; rfl
  have ed : (formF r).map frD = (strip (sixths r)).map fun t => frD (lowest t) := by simp [formF, Function.comp_def]
  unfold fmD
  rw [ed]
  generalize sixths r = S at *
  simp [f_law_form_of, e1]
  refine while_ok (fun m σ h' => h <+: h' ∧ ∃ (i : Nat) (cur : List Int) (y : Option D), h'[i]? = some (.lst (cur.map .int)) ∧ strip cur = strip S ∧ cur.length ≤ 4 ∧ m = cur.length ∧ σ = [some (.obj n), some (.obj i), y]) ?_ 100 S.length _ _ (by omega) ⟨List.prefix_append _ _, h.length, S, none, by simp, rfl, by omega, rfl, rfl⟩
  rintro m σ h' ⟨hp, i, cur, y, ei, es, hl, rfl, rfl⟩
  have c1 := cmp_nil (h := h' ++ [.lst []]) (n := i) (m := h'.length) (xs := cur) (Pre.get (List.prefix_append _ _) ei) (by simp)
  have p1 : h <+: h' ++ [.lst []] := hp.trans (List.prefix_append _ _)
  have ei1 : (h' ++ [O.lst []])[i]? = some (.lst (cur.map .int)) := Pre.get (List.prefix_append _ _) ei
  have it := items_obj ei1
  have done : ∀ σ' : En, σ' = [some (.obj n), some (.obj i), y] → strip cur = cur → Ok (evE (callF P 100 (k + 1)) (.bq .tuple (.mk (.call 21 (.cons (.var 2) (.cons (.lit (.int (6))) .nil))) (.nm 2) (.seq (.var 1)) .no [2])) σ' (h' ++ [.lst []])) fun d h2 => d = .tup ((strip S).map fun t => frD (lowest t)) ∧ h <+: h2 := by
    rintro σ' rfl ec
    simp [seq_obj' ei1]
    rw [if_pos (by omega), compD_map (g := fun x => match x with | .int t => frD (lowest t) | _ => .non) (dep1 ei1) _ (fun x mx => by
      obtain ⟨t, _, rfl⟩ := List.mem_map.mp mx
      simp [wipeE, s_lowest (k := k)])]
    simp [biL, ← es, ec, Function.comp_def]
    exact p1
  rcases List.eq_nil_or_concat cur with rfl | ⟨c0, x, hcx⟩
  · rw [show ([] : List Int).isEmpty = true from rfl] at c1
    simp [c1]
    have := done _ rfl rfl
    simpa using this
  · rw [List.concat_eq_append] at hcx
    subst hcx
    have hne : (c0 ++ [x]).isEmpty = false := by cases c0 <;> rfl
    have la : L2.atI ((c0 ++ [x]).map D.int) (-1) = some (.int x) := by
      rw [atI_last (xs := (c0 ++ [x]).map D.int) (by simp)]
      simp
    have cu : cutD ((c0 ++ [x]).map D.int) none (some (-1)) = c0.map .int := by
      have : HT.sIx ((c0 ++ [x]).map D.int).length ((c0 ++ [x]).map D.int).length (some (-1)) = c0.length := by
        simp only [HT.sIx]
        rw [if_pos (by decide)]
        simp
        omega
      unfold cutD
      rw [this]
      simp [HT.sIx]
    have sl : slop (h' ++ [.lst []]) (.obj i) none (some (-1)) = .ok (.obj (h'.length + 1)) (h' ++ [.lst []] ++ [.lst (c0.map .int)]) := by
      simp only [slop, ei1, cu]
      simp
    simp only [List.map_append, List.map_cons, List.map_nil] at it la
    rw [hne] at c1
    simp [c1, it, la]
    by_cases cx : x = 0
    · subst cx
      simp [sl]
      refine ⟨c0.length, by omega, hp.trans (List.prefix_append _ _), h'.length + 1, c0, by simp, ?_, by simp at hl; omega, rfl, rfl⟩
      rw [← es, strip_snoc]
    · simp [cx]
      have := done _ rfl (strip_last c0 x cx)
      simpa using this
end K67

set_option Elab.async false
set_option linter.all false
set_option maxRecDepth 100000
set_option maxHeartbeats 4000000
namespace K67
open PySem Ev

/-! ### plain: polynomials moved, scaled, with zeros -/
theorem shft_nil (a p d : Int) : shft a p d [] = [0 + d] := rfl
theorem shft_cons (a p d x : Int) (F : List Int) : shft a p d (x :: F) = (a * x + d) :: addS p (x :: F) (F.map (a * ·) ++ [0]) := rfl
theorem addS_scale (p c : Int) : ∀ F G : List Int, addS p (F.map (c * ·)) (G.map (c * ·)) = (addS p F G).map (c * ·)
  | [], G => by cases G <;> rfl
  | x :: F, [] => rfl
  | x :: F, g :: G => by
    simp only [List.map_cons, addS, addS_scale p c F G]
    rw [Int.mul_add, Int.mul_left_comm]
theorem shft_scale (a p c d : Int) (F : List Int) : shft a p (c * d) (F.map (c * ·)) = (shft a p d F).map (c * ·) := by
  cases F with
  | nil => simp [shft_nil]
  | cons x F =>
    simp only [List.map_cons, shft_cons]
    have e : (F.map (c * ·)).map (a * ·) ++ [0] = (F.map (a * ·) ++ [0]).map (c * ·) := by
      simp [Function.comp_def, Int.mul_left_comm]
    have := addS_scale p c (x :: F) (F.map (a * ·) ++ [0])
    rw [List.map_cons] at this
    rw [e, this, Int.mul_add, Int.mul_left_comm]
theorem hor_scale (a p c : Int) : ∀ (ds F : List Int), (ds.map (c * ·)).foldl (fun F d => shft a p d F) (F.map (c * ·)) = (ds.foldl (fun F d => shft a p d F) F).map (c * ·)
  | [], F => rfl
  | d :: ds, F => by rw [List.map_cons, List.foldl_cons, List.foldl_cons, shft_scale, hor_scale a p c ds]
theorem addS_append (p : Int) : ∀ F G F2 G2 : List Int, F.length = G.length → addS p (F ++ F2) (G ++ G2) = addS p F G ++ addS p F2 G2
  | [], [], F2, G2, _ => by cases F2 <;> cases G2 <;> rfl
  | [], _ :: _, _, _, h => by cases h
  | _ :: _, [], _, _, h => by cases h
  | x :: F, g :: G, F2, G2, h => by
    simp only [List.cons_append, addS]
    rw [addS_append p F G F2 G2 (by simpa using h)]
theorem addS_zeros (p : Int) : ∀ k : Nat, addS p (List.replicate k 0) (List.replicate k 0) = List.replicate k 0
  | 0 => rfl
  | k + 1 => by simp only [List.replicate_succ, addS, addS_zeros p k]; simp
theorem zeros_snoc (k : Nat) : List.replicate k (0 : Int) ++ [0] = 0 :: List.replicate k 0 := by rw [← List.replicate_succ, List.replicate_succ']
theorem shft_zeros (a p d : Int) (k : Nat) (F : List Int) : shft a p d (F ++ List.replicate k 0) = shft a p d F ++ List.replicate k 0 := by
  cases F with
  | nil =>
    cases k with
    | zero => simp
    | succ k =>
      rw [List.nil_append, List.replicate_succ, shft_cons, shft_nil]
      have e : (List.replicate k (0 : Int)).map (a * ·) ++ [0] = List.replicate (k + 1) 0 := by
        rw [List.map_replicate, Int.mul_zero, List.replicate_succ']
      rw [e, ← List.replicate_succ, addS_zeros]
      simp
  | cons x F =>
    rw [List.cons_append, shft_cons, shft_cons]
    have e : (F ++ List.replicate k 0).map (a * ·) ++ [0] = (F.map (a * ·) ++ [0]) ++ List.replicate k 0 := by
      rw [List.map_append, List.map_replicate, Int.mul_zero, List.append_assoc, List.append_assoc, zeros_snoc]
      rfl
    have := addS_append p (x :: F) (F.map (a * ·) ++ [0]) (List.replicate k 0) (List.replicate k 0) (by simp)
    rw [List.cons_append] at this
    rw [e, this, addS_zeros, List.cons_append]
theorem hor_zeros (a p : Int) (k : Nat) : ∀ (ds F : List Int), ds.foldl (fun F d => shft a p d F) (F ++ List.replicate k 0) = ds.foldl (fun F d => shft a p d F) F ++ List.replicate k 0
  | [], F => rfl
  | d :: ds, F => by rw [List.foldl_cons, List.foldl_cons, shft_zeros, hor_zeros a p k ds]
theorem hor_start (a p : Int) : ∀ (k j : Nat), (List.replicate k (0 : Int)).foldl (fun F d => shft a p d F) (List.replicate j 0) = List.replicate (k + j) 0
  | 0, j => by simp
  | k + 1, j => by
    rw [List.replicate_succ, List.foldl_cons]
    have e : shft a p 0 (List.replicate j 0) = List.replicate (j + 1) 0 := by
      have := shft_zeros a p 0 j []
      rw [List.nil_append, shft_nil] at this
      rw [this, List.replicate_succ]
      rfl
    rw [e, hor_start a p k (j + 1)]
    congr 1
    omega
theorem hor_lead (a p : Int) (k : Nat) (ds : List Int) : hor a p (List.replicate k 0 ++ ds) = hor a p ds ++ List.replicate k 0 := by
  unfold hor
  rw [List.foldl_append]
  have := hor_start a p k 0
  rw [show List.replicate 0 (0 : Int) = [] from rfl] at this
  rw [this, Nat.add_zero]
  have := hor_zeros a p k ds []
  rwa [List.nil_append] at this
theorem nn_scale {c : Int} (hc : 0 < c) (xs : List Int) : ((xs.map (c * ·)).all fun x => decide (0 ≤ x)) = xs.all fun x => decide (0 ≤ x) := by
  rw [List.all_map]
  congr 1
  funext x
  simp only [Function.comp_apply]
  congr 1
  apply propext
  constructor
  · intro h
    by_cases q : 0 ≤ x
    · exact q
    · have := Int.mul_neg_of_pos_of_neg hc (show x < 0 by omega)
      omega
  · intro h; exact Int.mul_nonneg (by omega) h
theorem nn_eq {zs ws : List Int} {c e : Int} (hc : 0 < c) (he : 0 < e) (a p : Int) (h : zs.map (c * ·) = ws.map (e * ·)) : ((hor a p zs).all fun x => decide (0 ≤ x)) = (hor a p ws).all fun x => decide (0 ≤ x) := by
  rw [← nn_scale hc (hor a p zs), ← nn_scale he (hor a p ws)]
  unfold hor
  have h1 := hor_scale a p c zs []
  have h2 := hor_scale a p e ws []
  rw [List.map_nil] at h1 h2
  rw [← h1, ← h2, h]
end K67

set_option Elab.async false
set_option linter.all false
set_option maxRecDepth 100000
set_option maxHeartbeats 4000000
namespace K67
open PySem Ev

theorem low_six (t : Int) : Six (lowest t).2 ∧ 6 * (lowest t).1 = t * (lowest t).2 ∧ Int.gcd (lowest t).1 (lowest t).2 = 1 := by
  have gp := gcd_pos' (a := t) (b := 6) (by decide)
  have g6 := Int.gcd_dvd_right t 6
  have gt := Int.gcd_dvd_left t 6
  have sg : Six (Int.gcd t 6 : Int) := ⟨by omega, g6⟩
  refine ⟨?_, ?_, ?_⟩
  · show Six (6 / (Int.gcd t 6 : Int))
    unfold Six
    rcases sg.or with e | e | e | e <;> rw [e] <;> decide
  · show 6 * (t / (Int.gcd t 6 : Int)) = t * (6 / (Int.gcd t 6 : Int))
    obtain ⟨u, hu⟩ := gt
    obtain ⟨v, hv⟩ := g6
    generalize (Int.gcd t 6 : Int) = g at *
    have e1 : t / g = u := by rw [hu]; exact Int.mul_ediv_cancel_left u (by omega)
    have e2 : 6 / g = v := by rw [hv]; exact Int.mul_ediv_cancel_left v (by omega)
    rw [e1, e2]
    conv => lhs; rw [hv]
    rw [hu]
    rw [Int.mul_assoc, Int.mul_assoc, Int.mul_comm v u]
  · show Int.gcd (t / (Int.gcd t 6 : Int)) (6 / (Int.gcd t 6 : Int)) = 1
    rw [Int.gcd_ediv gt g6]
    have : Int.gcd t 6 ≠ 0 := by omega
    simp
theorem strip_mem : ∀ {xs : List Int} {x : Int}, x ∈ strip xs → x ∈ xs
  | [], _, h => by cases h
  | y :: xs, x, h => by
    rw [strip] at h
    split at h
    · rename_i e
      split at h
      · cases h
      · have : x = y := by simpa using h
        subst this; exact List.mem_cons_self
    · rename_i a b e
      rcases List.mem_cons.mp h with rfl | h
      · exact List.mem_cons_self
      · exact List.mem_cons_of_mem _ (strip_mem (by rw [e]; exact h))
theorem strip_zeros : ∀ xs : List Int, xs = strip xs ++ List.replicate (xs.length - (strip xs).length) 0
  | [] => rfl
  | x :: xs => by
    have ih := strip_zeros xs
    have hl := strip_len xs
    rw [strip]
    split
    · rename_i e
      rw [e] at ih
      simp at ih
      split
      · rename_i c
        subst c
        simp [List.replicate_succ]
        exact ih
      · simp
        exact ih
    · rename_i a b e
      rw [e] at ih hl
      simp only [List.length_cons, List.cons_append] at *
      rw [show xs.length + 1 - (b.length + 1 + 1) = xs.length - (b.length + 1) by omega]
      congr 1
theorem strip_getLast : ∀ (xs : List Int) (z : Int), (strip xs).getLast? = some z → z ≠ 0
  | [], z, h => by simp [strip] at h
  | x :: xs, z, h => by
    have ih := strip_getLast xs z
    cases e : strip xs with
    | nil =>
      by_cases c : x = 0
      · simp [strip, e, c] at h
      · simp [strip, e, c] at h
        rw [← h]; exact c
    | cons a b =>
      rw [e] at ih
      simp only [strip, e] at h
      rw [List.getLast?_cons_cons] at h
      exact ih h
theorem six_bound {r : List Int} (hr : Row r) : (sixths r).length = 4 ∧ ∀ t ∈ sixths r, -2000 ≤ t ∧ t ≤ 2000 := by
  obtain ⟨a, b, c, d, rfl, ha, hb, hc, hd⟩ := hr.four
  refine ⟨rfl, fun t ht => ?_⟩
  simp only [sixths, List.mem_cons, List.not_mem_nil, or_false] at ht
  rcases ht with rfl | rfl | rfl | rfl <;> omega
theorem form_vf {r : List Int} (hr : Row r) : VF (formF r) ∧ (formF r).length ≤ 4 := by
  obtain ⟨h1, h2⟩ := six_bound hr
  constructor
  · intro p hp
    obtain ⟨t, ht, rfl⟩ := List.mem_map.mp hp
    have hb := h2 t (strip_mem ht)
    obtain ⟨s, e, _⟩ := low_six t
    refine ⟨?_, s⟩
    rcases s.or with q | q | q | q <;> rw [q] at e <;> omega
  · have := strip_len (sixths r)
    simp only [formF, List.length_map]
    omega
theorem form_fm {r : List Int} : isFm (fmD (formF r)) = true := by
  unfold fmD isFm
  simp only [Bool.and_eq_true]
  constructor
  · rw [List.all_map, List.all_eq_true]
    intro p hp
    obtain ⟨t, ht, rfl⟩ := List.mem_map.mp hp
    obtain ⟨s, _, g⟩ := low_six t
    simp [isFr, frD, g, s.1]
  · by_cases hn : strip (sixths r) = []
    · simp [formF, hn]
    · have e : (strip (sixths r)).getLast? = some ((strip (sixths r)).getLast hn) := List.getLast?_eq_some_getLast hn
      have hl := strip_getLast _ _ e
      simp only [formF, List.map_map, List.getLast?_map, e, Option.map_some, Function.comp_apply, frD]
      obtain ⟨s, q, _⟩ := low_six ((strip (sixths r)).getLast hn)
      have : (lowest ((strip (sixths r)).getLast hn)).1 ≠ 0 := by
        intro z
        rw [z] at q
        have h6 := s.1
        have := Int.mul_ne_zero hl (show (lowest ((strip (sixths r)).getLast hn)).2 ≠ 0 by omega)
        omega
      simp [this]
/-- the parts, scaled -/
theorem over_six {C : Int} : ∀ ts : List Int, (∀ t ∈ ts, (lowest t).2 ∣ C) → (over (ts.map lowest) C).map (6 * ·) = ts.map (C * ·)
  | [], _ => rfl
  | t :: ts, h => by
    have ih := over_six ts fun x hx => h x (List.mem_cons_of_mem _ hx)
    have d := h t List.mem_cons_self
    obtain ⟨s, e, _⟩ := low_six t
    simp only [over, List.map_cons, List.map_map] at ih ⊢
    refine List.cons_eq_cons.mpr ⟨?_, ih⟩
    obtain ⟨q, hq⟩ := d
    have h6 := s.1
    rw [show C / (lowest t).2 = q by rw [hq]; exact Int.mul_ediv_cancel_left q (by omega)]
    rw [← Int.mul_assoc, e, Int.mul_assoc, ← hq, Int.mul_comm]
theorem ev_scale (n c : Int) : ∀ xs : List Int, ev n (xs.map (c * ·)) = c * ev n xs
  | [] => by simp [ev]
  | x :: xs => by rw [List.map_cons, ev, ev, ev_scale n c xs, Int.mul_add, Int.mul_left_comm]
theorem ev_zeros (n : Int) (k : Nat) : ∀ xs : List Int, ev n (xs ++ List.replicate k 0) = ev n xs
  | [] => by
    rw [List.nil_append]
    induction k with
    | zero => rfl
    | succ k ih =>
      show 0 + n * ev n (List.replicate k 0) = ev n []
      rw [ih]; simp [ev]
  | x :: xs => by rw [List.cons_append, ev, ev, ev_zeros n k xs]
/-- the polynomial's value, as the law sums it -/
def pv (r : List Int) (n : Int) : Int := match r with
  | [a, b, c, d] => a * 1 + (b * n + (c * (n * (n - 1) / 2) + (d * (n * (n - 1) * (n - 2) / 6) + 0)))
  | _ => 0
theorem half {n : Int} : 2 * (n * (n - 1) / 2) = n * (n - 1) := by
  have h : n * (n - 1) % 2 = 0 := by
    have : n % 2 = 0 ∨ n % 2 = 1 := by omega
    rcases this with e | e
    · rw [Int.mul_emod, e]; simp
    · rw [Int.mul_emod, show (n - 1) % 2 = 0 by omega]; simp
  omega
theorem sixth {n : Int} : 6 * (n * (n - 1) * (n - 2) / 6) = n * (n - 1) * (n - 2) := by
  have h : n * (n - 1) * (n - 2) % 6 = 0 := by
    rw [Int.mul_emod, Int.mul_emod n]
    have : n % 6 = 0 ∨ n % 6 = 1 ∨ n % 6 = 2 ∨ n % 6 = 3 ∨ n % 6 = 4 ∨ n % 6 = 5 := by omega
    rcases this with e | e | e | e | e | e
    · rw [e, show (n - 1) % 6 = 5 by omega, show (n - 2) % 6 = 4 by omega]; decide
    · rw [e, show (n - 1) % 6 = 0 by omega, show (n - 2) % 6 = 5 by omega]; decide
    · rw [e, show (n - 1) % 6 = 1 by omega, show (n - 2) % 6 = 0 by omega]; decide
    · rw [e, show (n - 1) % 6 = 2 by omega, show (n - 2) % 6 = 1 by omega]; decide
    · rw [e, show (n - 1) % 6 = 3 by omega, show (n - 2) % 6 = 2 by omega]; decide
    · rw [e, show (n - 1) % 6 = 4 by omega, show (n - 2) % 6 = 3 by omega]; decide
  omega
theorem pv_six {r : List Int} (hr : Row r) (n : Int) : ev n (sixths r) = 6 * pv r n := by
  obtain ⟨a, b, c, d, rfl, _⟩ := hr.four
  simp only [sixths, ev, pv]
  have h2 := half (n := n)
  have h6 := sixth (n := n)
  generalize n * (n - 1) / 2 = x at *
  generalize n * (n - 1) * (n - 2) / 6 = y at *
  grind
theorem form_over {r : List Int} {C : Int} (h : ∀ p ∈ formF r, p.2 ∣ C) : (over (formF r) C).map (6 * ·) = (strip (sixths r)).map (C * ·) :=
  over_six _ fun t ht => h (lowest t) (List.mem_map_of_mem ht)
theorem top_pv {r : List Int} (hr : Row r) (n : Int) : topF (formF r) n = botF (formF r) * pv r n := by
  obtain ⟨sb, db⟩ := bot_ok (form_vf hr).1
  have e := form_over (r := r) db
  unfold topF
  generalize botF (formF r) = C at *
  have h1 := ev_scale n 6 (over (formF r) C)
  rw [e, ev_scale] at h1
  have h2 := ev_zeros n ((sixths r).length - (strip (sixths r)).length) (strip (sixths r))
  rw [← strip_zeros, pv_six hr] at h2
  rw [← h2] at h1
  have h3 : C * (6 * pv r n) = 6 * (C * pv r n) := Int.mul_left_comm ..
  omega
theorem form_tells {r : List Int} (hr : Row r) (a p : Int) : tellsB (formF r) a p = true := by
  unfold tellsB
  rw [List.all_eq_true]
  intro i _
  rw [top_pv hr]
  simp
/-- rows that are told of -/
structure Rows (es : List Int) (rows : List (List Int)) : Prop where
  row : ∀ r ∈ rows, Row r
  pos : 0 < rows.length
  few : rows.length ≤ 6
  lead : es.length ≤ 3
  small : ∀ x ∈ es, -100 ≤ x ∧ x ≤ 100
theorem Rows.good {es : List Int} {rows : List (List Int)} (h : Rows es rows) : Good es (rows.map formF) ∧ tAll es.length (rows.map formF) = true := by
  constructor
  · refine ⟨fun f hf => ?_, by simpa using h.pos, by have := h.few; simp; omega, by have := h.lead; omega⟩
    obtain ⟨r, hr, rfl⟩ := List.mem_map.mp hf
    have := form_vf (h.row r hr)
    exact ⟨this.1, by omega, form_fm⟩
  · unfold tAll
    rw [List.all_eq_true]
    intro i _
    unfold tAt
    split
    · rename_i f hf
      rw [List.getElem?_map] at hf
      obtain ⟨r, hr, rfl⟩ := Option.map_eq_some_iff.mp hf
      exact form_tells (h.row r (List.mem_of_getElem? hr)) _ _
    · rfl
/-- what the law tells at a place -/
def rowAt (rows : List (List Int)) (n : Int) : List Int := (rows[(n % (rows.length : Int)).toNat]?).getD []
def lt (es : List Int) (rows : List (List Int)) (n : Nat) : Int := if n < es.length then (es[n]?).getD 0 else pv (rowAt rows n) n
theorem tv_lt {es : List Int} {rows : List (List Int)} (h : Rows es rows) (n : Nat) : tv es (rows.map formF) n = lt es rows n := by
  unfold tv toldF lt
  split
  · rfl
  · have hl : n % rows.length < rows.length := Nat.mod_lt _ h.pos
    have hr := h.row _ (List.getElem_mem hl)
    have e : ((n : Int) % (rows.length : Int)).toNat = n % rows.length := by rw [← Int.natCast_emod, Int.toNat_natCast]
    obtain ⟨sb, _⟩ := bot_ok (form_vf hr).1
    have hb := sb.1
    simp only [List.length_map, List.getElem?_map, List.getElem?_eq_getElem hl, Option.map_some, Option.getD_some, rowAt, e, top_pv hr]
    exact Int.mul_ediv_cancel_left _ (by omega)
theorem fsAt_row {rows : List (List Int)} (h : 0 < rows.length) (a : Int) : fsAt (rows.map formF) a = formF (rowAt rows a) ∧ rowAt rows a ∈ rows := by
  have h1 := Int.emod_nonneg a (show (rows.length : Int) ≠ 0 by omega)
  have h2 := Int.emod_lt_of_pos a (show 0 < (rows.length : Int) by omega)
  have hl : (a % (rows.length : Int)).toNat < rows.length := by omega
  constructor
  · simp only [fsAt, rowAt, List.length_map, List.getElem?_map, List.getElem?_eq_getElem hl, Option.map_some, Option.getD_some]
  · simp only [rowAt, List.getElem?_eq_getElem hl, Option.getD_some]
    exact List.getElem_mem hl
/-- the law's own look at a start: from the highest part down -/
def difs (r r' : List Int) : List Int := (List.zipWith (fun m l => m - l) (sixths r') (sixths r)).reverse
def wellB (r r' : List Int) (a p : Int) : Bool := (hor a p (difs r r')).all fun x => decide (0 ≤ x)
theorem zipPad_scale (c : Int) : ∀ A B : List Int, (zipPad A B).map (c * ·) = zipPad (A.map (c * ·)) (B.map (c * ·))
  | [], [] => by simp [zipPad]
  | x :: A, [] => by
    have := zipPad_scale c A []
    rw [List.map_nil] at this
    simp only [zipPad, List.map_cons, List.map_nil, Int.mul_sub, Int.mul_zero, this]
  | [], y :: B => by
    have := zipPad_scale c [] B
    rw [List.map_nil] at this
    simp only [zipPad, List.map_cons, List.map_nil, Int.mul_sub, Int.mul_zero, this]
  | x :: A, y :: B => by simp only [zipPad, List.map_cons, zipPad_scale c A B, Int.mul_sub]
theorem zipPad_zeros : ∀ (A B : List Int) (i j : Nat), A.length + i = B.length + j → ∃ k, List.zipWith (fun m l => m - l) (B ++ List.replicate j 0) (A ++ List.replicate i 0) = zipPad A B ++ List.replicate k 0
  | [], [], i, j, h => by
    have : i = j := by simpa using h
    subst this
    exact ⟨i, by simp [zipPad]⟩
  | x :: A, [], i, j, h => by
    cases j with
    | zero => exfalso; simp only [List.length_cons, List.length_nil] at h; omega
    | succ j =>
      obtain ⟨k, hk⟩ := zipPad_zeros A [] i j (by simp at h ⊢; omega)
      refine ⟨k, ?_⟩
      simp only [List.nil_append, List.cons_append, List.replicate_succ, List.zipWith_cons_cons, zipPad] at hk ⊢
      rw [hk]
  | [], y :: B, i, j, h => by
    cases i with
    | zero => exfalso; simp only [List.length_cons, List.length_nil] at h; omega
    | succ i =>
      obtain ⟨k, hk⟩ := zipPad_zeros [] B i j (by simp at h ⊢; omega)
      refine ⟨k, ?_⟩
      simp only [List.nil_append, List.cons_append, List.replicate_succ, List.zipWith_cons_cons, zipPad] at hk ⊢
      rw [hk]
  | x :: A, y :: B, i, j, h => by
    obtain ⟨k, hk⟩ := zipPad_zeros A B i j (by simp at h; omega)
    refine ⟨k, ?_⟩
    simp only [List.cons_append, List.zipWith_cons_cons, zipPad, hk]
theorem stays_well {r r' : List Int} (hr : Row r) (hr' : Row r') (a p : Int) : staysB (formF r) (formF r') a p = wellB r r' a p := by
  obtain ⟨sb, db⟩ := bot_ok (form_vf hr).1
  obtain ⟨sb', db'⟩ := bot_ok (form_vf hr').1
  obtain ⟨sC, d1, d2⟩ := sb.lcm sb'
  unfold staysB wellB difs
  generalize lcmI (botF (formF r)) (botF (formF r')) = C at *
  have e1 := form_over (r := r) (C := C) fun q hq => Int.dvd_trans (db q hq) d1
  have e2 := form_over (r := r') (C := C) fun q hq => Int.dvd_trans (db' q hq) d2
  obtain ⟨h4, _⟩ := six_bound hr
  obtain ⟨h4', _⟩ := six_bound hr'
  have l1 := strip_len (sixths r)
  have l2 := strip_len (sixths r')
  obtain ⟨k, hk⟩ := zipPad_zeros (strip (sixths r)) (strip (sixths r')) ((sixths r).length - (strip (sixths r)).length) ((sixths r').length - (strip (sixths r')).length) (by omega)
  rw [← strip_zeros, ← strip_zeros] at hk
  rw [hk, List.reverse_append, List.reverse_replicate, hor_lead, List.all_append]
  have z : ((List.replicate k (0 : Int)).all fun x => decide (0 ≤ x)) = true := by
    rw [List.all_eq_true]
    intro x hx
    rw [List.eq_of_mem_replicate hx]
    decide
  rw [z, Bool.and_true]
  refine nn_eq (c := 6) (e := C) (by decide) (by have := sC.1; omega) a p ?_
  rw [List.map_reverse, List.map_reverse, zipPad_scale, zipPad_scale, e1, e2]
end K67

set_option Elab.async false
set_option linter.all false
set_option maxRecDepth 100000
set_option maxHeartbeats 4000000
namespace K67
open PySem Ev

/-! ### a pair of the law in the store -/
/-- [lead, sums] stands at m -/
structure PairAt (h : Hh) (m : Nat) (es : List Int) (rows : List (List Int)) : Prop where
  ex : ∃ (n1 n2 : Nat) (ix : List Nat), h[m]? = some (.lst [.obj n1, .obj n2]) ∧ h[n1]? = some (.lst (es.map .int)) ∧ h[n2]? = some (.lst (ix.map .obj)) ∧ ix.length = rows.length ∧ ∀ (i n : Nat) (r : List Int), ix[i]? = some n → rows[i]? = some r → RowAt h n r
/-- the old things stay -/
def Old (h h' : Hh) : Prop := ∀ (j : Nat) (o : O), h[j]? = some o → h'[j]? = some o
theorem PairAt.old {h h' : Hh} {m : Nat} {es : List Int} {rows : List (List Int)} (p : PairAt h m es rows) (o : Old h h') : PairAt h' m es rows := by
  obtain ⟨n1, n2, ix, a, b, c, d, e⟩ := p.ex
  exact ⟨n1, n2, ix, o _ _ a, o _ _ b, o _ _ c, d, fun i n r x y => o _ _ (e i n r x y)⟩
theorem Old.pre {h h' : Hh} (p : h <+: h') : Old h h' := fun _ _ e => Pre.get p e
theorem sumL_eq (xs : List Int) : toInts (xs.map .int) = some xs := by
  induction xs with
  | nil => rfl
  | cons x xs ih => simp [toInts, ih]
/-- what the law tells at a place -/
theorem s_told {k : Nat} {h : Hh} {n1 n2 : Nat} {ix : List Nat} {es : List Int} {rows : List (List Int)} {n : Nat} (R : Rows es rows) (b : h[n1]? = some (.lst (es.map .int))) (c : h[n2]? = some (.lst (ix.map .obj))) (d : ix.length = rows.length) (e : ∀ (i n : Nat) (r : List Int), ix[i]? = some n → rows[i]? = some r → RowAt h n r) (hn : n < 10000) :
    callF P 100 (k + 1) 24 [.obj n1, .obj n2, .int n] h = .ok (.int (lt es rows n)) h := by
  refine call_pure (fd := f_law_told) rfl rfl rfl ?_
  have b1 : biop .len [.obj n1] h = .ok (.int es.length) h := by simp only [biop, b, biL, List.length_map]
  have i1 := items_obj b
  by_cases cn : n < es.length
  · have a1 : L2.atI (es.map D.int) (n : Int) = some (.int (lt es rows n)) := by
      rw [atI_nat (by simpa using cn), List.getElem?_map, List.getElem?_eq_getElem cn]
      simp [lt, cn]
    simp [f_law_told, b1, cn, i1, a1]
  · have hp := R.pos
    have hl : n % rows.length < rows.length := Nat.mod_lt _ hp
    have hr := R.row _ (List.getElem_mem hl)
    have hl2 : n % rows.length < ix.length := by omega
    have rr := e (n % rows.length) ix[n % rows.length] rows[n % rows.length] (List.getElem?_eq_getElem hl2) (List.getElem?_eq_getElem hl)
    have e0 : ((n : Int) % (rows.length : Int)).toNat = n % rows.length := by rw [← Int.natCast_emod, Int.toNat_natCast]
    have ev : lt es rows n = pv rows[n % rows.length] n := by
      simp only [lt, if_neg cn, rowAt, e0, List.getElem?_eq_getElem hl, Option.getD_some]
    rw [ev]
    generalize rows[n % rows.length] = r at *
    generalize hN : ix[n % rows.length] = N at *
    obtain ⟨x0, x1, x2, x3, rfl, h0, h1, h2, h3⟩ := hr.four
    have rr : h[N]? = some (.lst [.int x0, .int x1, .int x2, .int x3]) := rr
    have c0 : ¬ ((n : Int) < (es.length : Int)) := by omega
    have bd : 0 ≤ (n : Int) ∧ (n : Int) < 10000 := by omega
    have b2 : biop .len [.obj n2] h = .ok (.int rows.length) h := by simp only [biop, c, biL, List.length_map, d]
    have i2 := items_obj c
    have a2 : L2.atI (ix.map D.obj) ((n : Int) % (rows.length : Int)) = some (.obj N) := by
      rw [← Int.natCast_emod, atI_nat (by simpa using hl2), List.getElem?_map, List.getElem?_eq_getElem hl2, hN]
      rfl
    generalize hw2 : (n : Int) * ((n : Int) - 1) / 2 = w2
    generalize hw3 : (n : Int) * ((n : Int) - 1) * ((n : Int) - 2) / 6 = w3
    have hp2 : ∀ {j : Nat} {o : O}, h[j]? = some o → (h ++ [O.lst [.int 1, .int (n : Int), .int w2, .int w3]])[j]? = some o := fun q => Pre.get (List.prefix_append h [O.lst [.int 1, .int (n : Int), .int w2, .int w3]]) q
    have b2' : biop .len [.obj n2] (h ++ [O.lst [.int 1, .int (n : Int), .int w2, .int w3]]) = .ok (.int rows.length) (h ++ [O.lst [.int 1, .int (n : Int), .int w2, .int w3]]) := by simp only [biop, hp2 c, biL, List.length_map, d]
    have z : zipop (h ++ [O.lst [.int 1, .int (n : Int), .int w2, .int w3]]) (.obj N) (.obj h.length) = some ([.tup [.int x0, .int 1], .tup [.int x1, .int n], .tup [.int x2, .int w2], .tup [.int x3, .int w3]], [(N, [.int x0, .int x1, .int x2, .int x3]), (h.length, [.int 1, .int (n : Int), .int w2, .int w3])]) := by
      simp only [zipop]
      rw [seq_obj' (hp2 rr), seq_obj' (h := h ++ [O.lst [.int 1, .int (n : Int), .int w2, .int w3]]) (n := h.length) (xs := [.int 1, .int (n : Int), .int w2, .int w3]) (by simp)]
      rfl
    have dk : depOk (h ++ [O.lst [.int 1, .int (n : Int), .int w2, .int w3]]) [(N, [.int x0, .int x1, .int x2, .int x3]), (h.length, [.int 1, .int (n : Int), .int w2, .int w3])] = true := by
      simp only [depOk, hp2 rr, decide_true, Bool.true_and, Bool.and_true, decide_eq_true_eq]
      simp
    have mb : ∀ (x y : Int) (h : Hh), -100 ≤ x ∧ x ≤ 100 → binop .mul (.int x) (.int y) h = .ok (.int (x * y)) h := fun x y h q => bin_mul_l (by omega)
    simp [f_law_told, b1, c0, bin_mul_l (i := (n : Int)) (j := (n : Int) - 1) (by omega), bin_mul_r (i := (n : Int) * ((n : Int) - 1)) (j := (n : Int) - 2) (by omega), bin_fdiv (i := (n : Int) * ((n : Int) - 1)) (j := 2) (by decide) (by decide), bin_fdiv (i := (n : Int) * ((n : Int) - 1) * ((n : Int) - 2)) (j := 6) (by decide) (by decide), hw2, hw3, b2', items_obj (hp2 c), bin_mod (i := (n : Int)) (show 0 < (rows.length : Int) by omega), a2, z]
    rw [compD_map (g := fun x => match x with | .tup [.int a, .int b] => .int (a * b) | _ => .non) dk _ (fun x mx => by
      simp only [List.mem_cons, List.not_mem_nil, or_false] at mx
      rcases mx with rfl | rfl | rfl | rfl
      · simp [wipeE, mb x0 1 _ h0]
      · simp [wipeE, mb x1 n _ h1]
      · simp [wipeE, mb x2 w2 _ h2]
      · simp [wipeE, mb x3 w3 _ h3])]
    simp [biL, toInts, pv, hw2, hw3]
def perG (a b : Nat) : D → Option D
  | .int n => if n % (a : Int) = 0 ∧ n % (b : Int) = 0 then some (.int n) else none
  | _ => none
def six6 : List Nat := [1, 2, 3, 4, 5, 6]
theorem per_min : (six6.all fun a => six6.all fun b => match toInts ((rangeD 1 1 36).filterMap (perG a b)) with
    | some (i :: is) => decide (minL (i :: is) = lcmI a b)
    | _ => false) = true := by decide +kernel
theorem per_one (t : Option (List Int)) (z : Int) (h : Hh) (q : (match t with
    | some (i :: is) => decide (minL (i :: is) = z)
    | _ => false) = true) : (match t with
    | some (i :: is) => (R.ok (D.int (minL (i :: is))) h : R D)
    | _ => .bad) = .ok (.int z) h := by
  cases t with
  | none => cases q
  | some l =>
    cases l with
    | nil => cases q
    | cons i is =>
      have e : minL (i :: is) = z := of_decide_eq_true q
      exact congrArg (fun u => (R.ok (D.int u) h : R D)) e
theorem per_eq {a b : Nat} (ha : 1 ≤ a ∧ a ≤ 6) (hb : 1 ≤ b ∧ b ≤ 6) (h : Hh) : biL .min ((rangeD 1 1 36).filterMap (perG a b)) h = .ok (.int (lcmI a b)) h := by
  have m : ∀ x : Nat, 1 ≤ x ∧ x ≤ 6 → x ∈ six6 := fun x hx => by
    simp only [six6, List.mem_cons, List.not_mem_nil, or_false]
    omega
  have q := List.all_eq_true.mp (List.all_eq_true.mp per_min a (m a ha)) b (m b hb)
  exact per_one (toInts ((rangeD 1 1 36).filterMap (perG a b))) _ h q
theorem s_period {k : Nat} {h : Hh} {m m' : Nat} {es es' : List Int} {rows rows' : List (List Int)} (R : Rows es rows) (R' : Rows es' rows') (p : PairAt h m es rows) (p' : PairAt h m' es' rows') : callF P 100 (k + 1) 25 [.obj m, .obj m'] h = .ok (.int (lcmI rows.length rows'.length)) h := by
  refine call_pure (fd := f_law_period) rfl rfl rfl ?_
  obtain ⟨n1, n2, ix, a, b, c, d, e⟩ := p.ex
  obtain ⟨n1', n2', ix', a', b', c', d', e'⟩ := p'.ex
  have i1 := items_obj a
  have i1' := items_obj a'
  have l1 : biop .len [.obj n2] h = .ok (.int rows.length) h := by simp only [biop, c, biL, List.length_map, d]
  have l1' : biop .len [.obj n2'] h = .ok (.int rows'.length) h := by simp only [biop, c', biL, List.length_map, d']
  have hp := R.pos
  have hf := R.few
  have hp' := R'.pos
  have hf' := R'.few
  have r36 : rngop [.int 1, .int 37] = some (rangeD 1 1 36) := rng_2 (a := 1) (b := 37) (by decide) (by decide)
  have len36 : (rangeD 1 1 36).length = 36 := by simp [rangeD]
  simp [f_law_period, r36, len36]
  rw [compD_pure (g := perG rows.length rows'.length) rfl (rangeD 1 1 36) [] (fun x mx => by
    obtain ⟨j, _, rfl⟩ := List.mem_map.mp mx
    by_cases c1 : (1 + (j : Int)) % (rows.length : Int) = 0
    · by_cases c2 : (1 + (j : Int)) % (rows'.length : Int) = 0
      · simp [wipeE, i1, i1', l1, l1', bin_mod (i := 1 + (j : Int)) (show 0 < (rows.length : Int) by omega), bin_mod (i := 1 + (j : Int)) (show 0 < (rows'.length : Int) by omega), c1, c2, perG]
      · simp [wipeE, i1, i1', l1, l1', bin_mod (i := 1 + (j : Int)) (show 0 < (rows.length : Int) by omega), bin_mod (i := 1 + (j : Int)) (show 0 < (rows'.length : Int) by omega), c1, c2, perG]
    · simp [wipeE, i1, i1', l1, l1', bin_mod (i := 1 + (j : Int)) (show 0 < (rows.length : Int) by omega), bin_mod (i := 1 + (j : Int)) (show 0 < (rows'.length : Int) by omega), c1, perG])]
  simp only [List.nil_append, ok_ok]
  rw [per_eq ⟨hp, hf⟩ ⟨hp', hf'⟩]
  simp
end K67

set_option Elab.async false
set_option linter.all false
set_option maxRecDepth 100000
set_option maxHeartbeats 4000000
namespace K67
open PySem Ev

theorem inner2 {k : Nat} {h0 : Hh} {F : List Int} {p : Int} (hp : -(2 ^ 64) < p ∧ p < 2 ^ 64) {h : Hh} {m M : Nat} {G : List Int} {g : Int} (hm : h[m]? = some (.lst (F.map .int))) (hM : h[M]? = some (.lst ((g :: G).map .int))) (hmM : m ≠ M) (hpre : h0 <+: h) (hlM : h0.length ≤ M) (hG : G.length = F.length) (hG2 : F.length < 1000)
    {x0 x1 x2 x4 x5 x7 x9 x10 : Option D} {Q : Fl → Hh → Prop}
    (q : ∀ (y9 : Option D) (h' : Hh), h0 <+: h' → h'[m]? = some (.lst (F.map .int)) → h'[M]? = some (.lst ((g :: addS p F G).map .int)) → (∀ (j : Nat) (o : O), j ≠ M → h[j]? = some o → h'[j]? = some o) → Q (.nx [x0, x1, x2, some (.int p), x4, x5, some (.obj m), x7, some (.obj M), y9, x10]) h') :
    Ok (loopD [] (fun x σ h => (asT (callF P 100 k) (.nm 9) x σ h).bind fun σ1 h2 => exSs (callF P 100 k) 100 (.cons (.asg (.sub (.var 8) (.bin .add (.var 9) (.lit (.int (1))))) (.bin .add (.idx (.var 8) (.bin .add (.var 9) (.lit (.int (1))))) (.bin .mul (.var 3) (.idx (.var 6) (.var 9))))) .nil) σ1 h2) ((List.range' 0 F.length).map fun i => .int (i : Nat))
      [x0, x1, x2, some (.int p), x4, x5, some (.obj m), x7, some (.obj M), x9, x10] h) Q := by
  refine loop_ok _ (fun ys σ h' => ∃ (Fd F' done rest : List Int) (y9 : Option D), ys = (List.range' done.length F'.length).map (fun i => .int (i : Nat)) ∧ F = Fd ++ F' ∧ Fd.length = done.length ∧ rest.length = F'.length ∧ done ++ addS p F' rest = addS p F G ∧ h0 <+: h' ∧ h'[m]? = some (.lst (F.map .int)) ∧ h'[M]? = some (.lst ((g :: (done ++ rest)).map .int)) ∧ (∀ (j : Nat) (o : O), j ≠ M → h[j]? = some o → h'[j]? = some o) ∧
    σ = [x0, x1, x2, some (.int p), x4, x5, some (.obj m), x7, some (.obj M), y9, x10]) _ _ ⟨[], F, [], G, x9, rfl, rfl, rfl, hG, rfl, hpre, hm, hM, fun _ _ _ e => e, rfl⟩ (fun _ _ _ _ => rfl) ?_ ?_
  · rintro x ys σ h' ⟨Fd, F', done, rest, y9, e, eF, hd, hr, ea, hp', em, eM, ef, rfl⟩
    cases F' with
    | nil => cases e
    | cons f F' =>
      cases rest with
      | nil => cases hr
      | cons r rest =>
        rw [List.length_cons, List.range'_succ, List.map_cons] at e
        injection e with e1 e2
        subst e1
        have hl : (done.length : Int) + 1 = ((done.length + 1 : Nat) : Int) := by omega
        have i1 : L2.atI ((g :: (done ++ r :: rest)).map D.int) ((done.length : Int) + 1) = some (.int r) := by
          rw [hl, atI_nat (by simp)]
          simp
        have i2 : L2.ixN ((g :: (done ++ r :: rest)).map D.int).length ((done.length : Int) + 1) = some (done.length + 1) := by
          rw [hl]
          unfold L2.ixN
          rw [if_pos (by omega), if_pos (by simp; omega), Int.toNat_natCast]
        have i3 : itemsOf h' (.obj M) = some ((g :: (done ++ r :: rest)).map .int) := items_obj eM
        have i4 : itemsOf h' (.obj m) = some (F.map .int) := items_obj em
        have i6 : L2.atI (F.map D.int) (done.length : Int) = some (.int f) := by
          rw [eF, ← hd, atI_nat (by simp)]
          simp
        have i5 : setop h' (.obj M) (.int ((done.length : Int) + 1)) (.int (r + p * f)) = .ok () (h'.set M (.lst ((g :: ((done ++ [r + p * f]) ++ rest)).map .int))) := by
          simp only [setop, eM, i2]
          congr 2
          simp
        have hM' : M < h'.length := (List.getElem?_eq_some_iff.mp eM).1
        simp only [as_nm, R.bind_ok, List.set_cons_succ, List.set_cons_zero, xs_cons, xs_nil, x_asg, e_bin, e_idx, e_var, e_lit, getV_eq, List.getElem?_cons_succ, List.getElem?_cons_zero, bin_add_int, ix_int, i3, i4, Option.bind_some, i1, i6, bin_mul_l (i := p) (j := f) hp, as_sub, i5, ok_ok, Fl.to_nx]
        refine ⟨Fd ++ [f], F', done ++ [r + p * f], rest, _, by rw [e2]; simp, by rw [eF]; simp, by simp [hd], by simpa using hr, by rw [← ea]; simp [addS], Pre.set hp' hlM, ?_, ?_, ?_, rfl⟩
        · rw [List.getElem?_set_ne (by omega)]; exact em
        · rw [List.getElem?_set_self hM']
        · intro j o hj ej
          rw [List.getElem?_set_ne (by omega)]
          exact ef j o hj ej
  · rintro σ h' ⟨Fd, F', done, rest, y9, e, eF, hd, hr, ea, hp', em, eM, ef, rfl⟩
    cases F' with
    | nil =>
      cases rest with
      | cons _ _ => cases hr
      | nil =>
        have ea : done = addS p F G := by simpa [addS] using ea
        refine q y9 h' hp' em ?_ ef
        rw [← ea]
        simpa using eM
    | cons f F' => rw [List.length_cons, List.range'_succ, List.map_cons] at e; cases e

def bodyW : Ss := (.cons (.asg (.nm 8) (.bin .add (.comp (.mk (.bin .mul (.var 2) (.var 10)) (.nm 10) (.seq (.var 6)) .no [10])) (.lst (.cons (.lit (.int (0))) .nil))))
      (.cons (.loop (.nm 9) (.rng (.cons (.bi .len (.cons (.var 6) .nil)) .nil)) (.cons (.asg (.sub (.var 8) (.bin .add (.var 9) (.lit (.int (1))))) (.bin .add (.idx (.var 8) (.bin .add (.var 9) (.lit (.int (1))))) (.bin .mul (.var 3) (.idx (.var 6) (.var 9)))))
      .nil))
      (.cons (.asg (.sub (.var 8) (.lit (.int (0)))) (.bin .sub (.bin .add (.idx (.var 8) (.lit (.int (0)))) (.idx (.var 5) (.var 7))) (.idx (.var 4) (.var 7))))
      (.cons (.asg (.nm 6) (.var 8))
      .nil))))
theorem turnW {k : Nat} {h0 : Hh} {F S S' : List Int} {a p l mo at_ : Int} (ha : -(2 ^ 64) < a ∧ a < 2 ^ 64) (hp : -(2 ^ 64) < p ∧ p < 2 ^ 64) {h : Hh} {m L Mo : Nat} (hm : h[m]? = some (.lst (F.map .int))) (hL : h[L]? = some (.lst (S.map .int))) (hMo : h[Mo]? = some (.lst (S'.map .int))) (aL : L2.atI (S.map D.int) at_ = some (.int l)) (aM : L2.atI (S'.map D.int) at_ = some (.int mo)) (hpre : h0 <+: h) (hF : F.length < 1000)
    {x0 x1 x8 x9 x10 : Option D} :
    Ok (exSs (callF P 100 k) 100 bodyW [x0, x1, some (.int a), some (.int p), some (.obj L), some (.obj Mo), some (.obj m), some (.int at_), x8, x9, x10] h) fun fl h' =>
      ∃ (M : Nat) (y8 y9 : Option D), fl = .nx [x0, x1, some (.int a), some (.int p), some (.obj L), some (.obj Mo), some (.obj M), some (.int at_), y8, y9, x10] ∧ h0 <+: h' ∧ h'[M]? = some (.lst ((shft a p (mo - l) F).map .int)) ∧ ∀ (j : Nat) (o : O), h[j]? = some o → h'[j]? = some o := by
  obtain ⟨g, G, eG⟩ : ∃ g G, F.map (a * ·) ++ [0] = g :: G := by cases F with
    | nil => exact ⟨_, _, rfl⟩
    | cons x F => exact ⟨_, _, rfl⟩
  have hGl : G.length = F.length := by have := congrArg List.length eG; simp at this; omega
  have hlen : (F.map D.int).length ≤ 16777216 := by simp; omega
  have hmlt : m < h.length := (List.getElem?_eq_some_iff.mp hm).1
  have hLlt : L < h.length := (List.getElem?_eq_some_iff.mp hL).1
  have hMlt : Mo < h.length := (List.getElem?_eq_some_iff.mp hMo).1
  have eC : evC (callF P 100 k) (.mk (.bin .mul (.var 2) (.var 10)) (.nm 10) (.seq (.var 6)) .no [10]) [x0, x1, some (.int a), some (.int p), some (.obj L), some (.obj Mo), some (.obj m), some (.int at_), x8, x9, x10] h = .ok (F.map fun x => .int (a * x)) h := by
    simp [seq_obj' hm]
    rw [if_pos (by omega), compD_map (g := fun x => match x with | .int i => .int (a * i) | _ => .non) (dep1 hm) _ (fun x mx => ?_)]
    · simp [Function.comp_def]
    · obtain ⟨i, _, rfl⟩ := List.mem_map.mp mx
      simp [wipeE, bin_mul_l (i := a) (j := i) ha]
  have e1 : binop .add (.obj h.length) (.obj (h.length + 1)) (h ++ [.lst (F.map fun x => .int (a * x))] ++ [.lst [.int 0]]) = .ok (.obj (h.length + 2)) (h ++ [.lst (F.map fun x => .int (a * x))] ++ [.lst [.int 0]] ++ [.lst ((g :: G).map .int)]) := by
    simp only [binop]
    rw [show (h ++ [O.lst (F.map fun x => D.int (a * x))] ++ [O.lst [.int 0]])[h.length]? = some (.lst (F.map fun x => .int (a * x))) by simp, show (h ++ [O.lst (F.map fun x => D.int (a * x))] ++ [O.lst [.int 0]])[h.length + 1]? = some (.lst [.int 0]) by simp]
    simp only
    rw [if_pos (by simp; omega), ← eG]
    simp [Function.comp_def]
  unfold bodyW
  rw [xs_cons, ok_bind, x_asg, ok_bind, e_bin, ok_bind, e_comp, ok_bind, eC, ok_ok, ok_ok]
  simp only [e_lst, es_cons, es_nil, e_lit, R.bind_ok, List.length_singleton, sz_val, List.length_append]
  rw [if_pos (by decide)]
  simp only [R.bind_ok, ok_ok, e1, as_nm, List.set_cons_succ, List.set_cons_zero]
  generalize hh : h ++ [O.lst (F.map fun x => D.int (a * x))] ++ [O.lst [.int 0]] ++ [O.lst ((g :: G).map .int)] = h3
  have p3 : h <+: h3 := by rw [← hh, List.append_assoc, List.append_assoc]; exact List.prefix_append _ _
  have m3 := Pre.get p3 hm
  have M3 : h3[h.length + 2]? = some (.lst ((g :: G).map .int)) := by rw [← hh]; simp
  have b3 : biop .len [.obj m] h3 = .ok (.int F.length) h3 := by simp only [biop, m3, biL, List.length_map]
  have eI : ∀ y8, evI (callF P 100 k) (.rng (.cons (.bi .len (.cons (.var 6) .nil)) .nil)) [x0, x1, some (.int a), some (.int p), some (.obj L), some (.obj Mo), some (.obj m), some (.int at_), y8, x9, x10] h3 = .ok ((List.range' 0 F.length).map fun i => .int (i : Nat), []) h3 := fun y8 => by
    have q := rangeD_from 0 F.length
    simp only [Int.natCast_zero] at q
    simp [b3, rng_1 (n := F.length) (by omega), q]
  rw [xs_cons, ok_bind, x_loop, ok_bind, eI, ok_ok]
  refine inner2 hp m3 M3 (by omega) (hpre.trans p3) (by have := hpre.length_le; omega) hGl hF fun y9 h4 p4 m4 M4 k4 => ?_
  have hM4 : h.length + 2 < h4.length := (List.getElem?_eq_some_iff.mp M4).1
  have i4 : itemsOf h4 (.obj (h.length + 2)) = some ((g :: addS p F G).map .int) := items_obj M4
  have i5 : setop h4 (.obj (h.length + 2)) (.int 0) (.int (g + mo - l)) = .ok () (h4.set (h.length + 2) (.lst ((shft a p (mo - l) F).map .int))) := by
    have : L2.ixN ((g :: addS p F G).map D.int).length 0 = some 0 := by
      unfold L2.ixN
      simp
    simp only [setop, M4, this]
    congr 2
    unfold shft
    rw [eG]
    simp only [List.map_cons, List.set_cons_zero]
    rw [show g + mo - l = g + (mo - l) by omega]
  have L4 := items_obj (k4 L _ (by omega) (Pre.get p3 hL))
  have Mo4 := items_obj (k4 Mo _ (by omega) (Pre.get p3 hMo))
  simp [i4, L4, Mo4, aL, aM, i5]
  refine ⟨Pre.set p4 (by have := hpre.length_le; omega), by rw [List.getElem?_set_self hM4], fun j o e => ?_⟩
  have hj : j < h.length := (List.getElem?_eq_some_iff.mp e).1
  rw [List.getElem?_set_ne (by omega)]
  exact k4 j o (by omega) (Pre.get p3 e)
end K67

set_option Elab.async false
set_option linter.all false
set_option maxRecDepth 100000
set_option maxHeartbeats 4000000
namespace K67
open PySem Ev

theorem minL_all : ∀ F : List Int, F ≠ [] → decide (0 ≤ minL F) = F.all fun x => decide (0 ≤ x)
  | [], h => absurd rfl h
  | [a], _ => by
    show decide (0 ≤ a) = (decide (0 ≤ a) && true)
    rw [Bool.and_true]
  | a :: b :: F, _ => by
    have ih := minL_all (b :: F) (by simp)
    rw [List.all_cons, ← ih]
    show decide (0 ≤ min a (minL (b :: F))) = _
    rw [← Bool.decide_and]
    congr 1
    apply propext
    omega
/-- a row of the pair, by a number of any size -/
theorem pair_row {h : Hh} {n2 : Nat} {ix : List Nat} {rows : List (List Int)} {a : Int} (hp : 0 < rows.length) (c : h[n2]? = some (.lst (ix.map .obj))) (d : ix.length = rows.length) (e : ∀ (i n : Nat) (r : List Int), ix[i]? = some n → rows[i]? = some r → RowAt h n r) :
    ∃ N, L2.atI (ix.map D.obj) (a % (rows.length : Int)) = some (.obj N) ∧ RowAt h N (rowAt rows a) ∧ rowAt rows a ∈ rows := by
  have h1 := Int.emod_nonneg a (show (rows.length : Int) ≠ 0 by omega)
  have h2 := Int.emod_lt_of_pos a (show 0 < (rows.length : Int) by omega)
  obtain ⟨i, ei⟩ : ∃ i : Nat, a % (rows.length : Int) = (i : Int) := ⟨(a % (rows.length : Int)).toNat, by omega⟩
  have hl : i < rows.length := by omega
  refine ⟨ix[i], ?_, ?_, ?_⟩
  · rw [ei, atI_nat (by simpa using (by omega : i < ix.length)), List.getElem?_map, List.getElem?_eq_getElem (by omega)]
    rfl
  · simp only [rowAt, ei, Int.toNat_natCast, List.getElem?_eq_getElem hl, Option.getD_some]
    exact e i _ _ (List.getElem?_eq_getElem (by omega)) (List.getElem?_eq_getElem hl)
  · simp only [rowAt, ei, Int.toNat_natCast, List.getElem?_eq_getElem hl, Option.getD_some]
    exact List.getElem_mem hl
theorem s_starts_well {k : Nat} {h : Hh} {m m' : Nat} {es es' : List Int} {rows rows' : List (List Int)} {a p : Int} (R : Rows es rows) (R' : Rows es' rows') (pa : PairAt h m es rows) (pa' : PairAt h m' es' rows') (ha : -(2 ^ 64) < a ∧ a < 2 ^ 64) (hp : -(2 ^ 64) < p ∧ p < 2 ^ 64) :
    callF P 100 (k + 2) 26 [.obj m, .obj m', .int a, .int p] h = .ok (.bl (wellB (rowAt rows a) (rowAt rows' a) a p)) h := by
  refine call_pure (fd := f_law_starts_well) rfl rfl rfl ?_
  obtain ⟨n1, n2, ix, q1, q2, q3, q4, q5⟩ := pa.ex
  obtain ⟨n1', n2', ix', q1', q2', q3', q4', q5'⟩ := pa'.ex
  obtain ⟨N, aN, rN, mN⟩ := pair_row (a := a) R.pos q3 q4 q5
  obtain ⟨N', aN', rN', mN'⟩ := pair_row (a := a) R'.pos q3' q4' q5'
  have hr := R.row _ mN
  have hr' := R'.row _ mN'
  generalize rowAt rows a = r at *
  generalize rowAt rows' a = r' at *
  have hpos := R.pos
  have hpos' := R'.pos
  have i1 := items_obj q1
  have i2 := items_obj q3
  have b1 : biop .len [.obj n2] h = .ok (.int rows.length) h := by simp only [biop, q3, biL, List.length_map, q4]
  have e1 := s_sixths (k := k) rN hr
  have p1 : h <+: h ++ [O.lst ((sixths r).map .int)] := List.prefix_append _ _
  have o1 : ∀ {j : Nat} {o : O}, h[j]? = some o → (h ++ [O.lst ((sixths r).map .int)])[j]? = some o := fun q => Pre.get p1 q
  have e2 := s_sixths (k := k) (h := h ++ [O.lst ((sixths r).map .int)]) (n := N') (r := r') (o1 rN') hr'
  have i1' := items_obj (o1 q1')
  have i2' := items_obj (o1 q3')
  have b1' : biop .len [.obj n2'] (h ++ [O.lst ((sixths r).map .int)]) = .ok (.int rows'.length) (h ++ [O.lst ((sixths r).map .int)]) := by simp only [biop, o1 q3', biL, List.length_map, q4']
  show Ok (exSs (callF P 100 (k + 1)) 100 f_law_starts_well.body [some (.obj m), some (.obj m'), some (.int a), some (.int p), none, none, none, none, none, none, none] h) _
  unfold f_law_starts_well
  rw [xs_cons, ok_bind]
  rw [show exS (callF P 100 (k + 1)) 100 (.asg (.nm 4) (.call 22 (.cons (.idx (.idx (.var 0) (.lit (.int (1)))) (.bin .mod (.bi .int (.cons (.var 2) .nil)) (.bi .len (.cons (.idx (.var 0) (.lit (.int (1)))) .nil)))) .nil))) [some (.obj m), some (.obj m'), some (.int a), some (.int p), none, none, none, none, none, none, none] h
    = .ok (.nx [some (.obj m), some (.obj m'), some (.int a), some (.int p), some (.obj h.length), none, none, none, none, none, none]) (h ++ [O.lst ((sixths r).map .int)]) by
      simp [i1, i2, b1, bin_mod (i := a) (show 0 < (rows.length : Int) by omega), aN, e1], ok_ok]
  simp only []
  rw [xs_cons, ok_bind]
  rw [show exS (callF P 100 (k + 1)) 100 (.asg (.nm 5) (.call 22 (.cons (.idx (.idx (.var 1) (.lit (.int (1)))) (.bin .mod (.bi .int (.cons (.var 2) .nil)) (.bi .len (.cons (.idx (.var 1) (.lit (.int (1)))) .nil)))) .nil))) [some (.obj m), some (.obj m'), some (.int a), some (.int p), some (.obj h.length), none, none, none, none, none, none] (h ++ [O.lst ((sixths r).map .int)])
    = .ok (.nx [some (.obj m), some (.obj m'), some (.int a), some (.int p), some (.obj h.length), some (.obj (h.length + 1)), none, none, none, none, none]) (h ++ [O.lst ((sixths r).map .int)] ++ [O.lst ((sixths r').map .int)]) by
      simp [i1', i2', b1', bin_mod (i := a) (show 0 < (rows'.length : Int) by omega), aN', e2], ok_ok]
  simp only []
  obtain ⟨l4, _⟩ := six_bound hr
  obtain ⟨l4', _⟩ := six_bound hr'
  unfold wellB difs
  generalize sixths r = S at *
  generalize sixths r' = S' at *
  match S, S', l4, l4' with
  | [s0, s1, s2, s3], [t0, t1, t2, t3], _, _ =>
    generalize hh2 : h ++ [O.lst ([s0, s1, s2, s3].map D.int)] ++ [O.lst ([t0, t1, t2, t3].map D.int)] = h2
    have p2 : h <+: h2 := by rw [← hh2, List.append_assoc]; exact List.prefix_append _ _
    have L2' : h2[h.length]? = some (.lst ([s0, s1, s2, s3].map D.int)) := by rw [← hh2]; simp
    have M2 : h2[h.length + 1]? = some (.lst ([t0, t1, t2, t3].map D.int)) := by rw [← hh2]; simp
    rw [xs_cons, ok_bind]
    rw [show exS (callF P 100 (k + 1)) 100 (.asg (.nm 6) (.lst .nil)) [some (.obj m), some (.obj m'), some (.int a), some (.int p), some (.obj h.length), some (.obj (h.length + 1)), none, none, none, none, none] h2
      = .ok (.nx [some (.obj m), some (.obj m'), some (.int a), some (.int p), some (.obj h.length), some (.obj (h.length + 1)), some (.obj h2.length), none, none, none, none]) (h2 ++ [O.lst []]) by simp, ok_ok]
    simp only []
    rw [xs_cons, ok_bind, x_loop, ok_bind]
    generalize hh3 : h2 ++ [O.lst []] = h3
    have p3 : h2 <+: h3 := by rw [← hh3]; exact List.prefix_append _ _
    have F3 : h3[h2.length]? = some (.lst (([] : List Int).map D.int)) := by rw [← hh3]; simp
    generalize h2.length = f0 at F3 ⊢
    have eI : evI (callF P 100 (k + 1)) (.seq (.lst (.cons (.lit (.int (3))) (.cons (.lit (.int (2))) (.cons (.lit (.int (1))) (.cons (.lit (.int (0))) .nil)))))) [some (.obj m), some (.obj m'), some (.int a), some (.int p), some (.obj h.length), some (.obj (h.length + 1)), some (.obj f0), none, none, none, none] h3
      = .ok ([.int 3, .int 2, .int 1, .int 0], [(h3.length, [.int 3, .int 2, .int 1, .int 0])]) (h3 ++ [O.lst [.int 3, .int 2, .int 1, .int 0]]) := by
      simp [seq_obj' (h := h3 ++ [O.lst [.int 3, .int 2, .int 1, .int 0]]) (n := h3.length) (xs := [.int 3, .int 2, .int 1, .int 0]) (by simp)]
    rw [eI, ok_ok]
    have p4 : h3 <+: h3 ++ [O.lst [D.int 3, .int 2, .int 1, .int 0]] := List.prefix_append _ _
    have d4 : (h3 ++ [O.lst [D.int 3, .int 2, .int 1, .int 0]])[h3.length]? = some (.lst [D.int 3, .int 2, .int 1, .int 0]) := by simp
    generalize h3 ++ [O.lst [D.int 3, .int 2, .int 1, .int 0]] = h4 at p4 d4 ⊢
    generalize h3.length = d0 at d4 ⊢
    have at3 : ∀ w x y z : Int, L2.atI ([w, x, y, z].map D.int) 3 = some (.int z) ∧ L2.atI ([w, x, y, z].map D.int) 2 = some (.int y) ∧ L2.atI ([w, x, y, z].map D.int) 1 = some (.int x) ∧ L2.atI ([w, x, y, z].map D.int) 0 = some (.int w) := fun w x y z => by
      simp only [List.map_cons, List.map_nil]
      exact ⟨atI_3, atI_2, atI_1, atI_0⟩
    have l1 := at3 s0 s1 s2 s3
    have l2 := at3 t0 t1 t2 t3
    have pp : h <+: h4 := (p2.trans p3).trans p4
    refine loop_ok _ (fun ys σ h' => ∃ (ds F : List Int) (f : Nat) (y7 y8 y9 : Option D), (ys = [.int 3, .int 2, .int 1, .int 0] ∧ ds = [t3 - s3, t2 - s2, t1 - s1, t0 - s0] ∧ F.length = 0 ∨ ys = [.int 2, .int 1, .int 0] ∧ ds = [t2 - s2, t1 - s1, t0 - s0] ∧ F.length = 1 ∨ ys = [.int 1, .int 0] ∧ ds = [t1 - s1, t0 - s0] ∧ F.length = 2 ∨ ys = [.int 0] ∧ ds = [t0 - s0] ∧ F.length = 3 ∨ ys = [] ∧ ds = [] ∧ F.length = 4) ∧
      ds.foldl (fun F d => shft a p d F) F = hor a p [t3 - s3, t2 - s2, t1 - s1, t0 - s0] ∧ h <+: h' ∧ h'[f]? = some (.lst (F.map .int)) ∧ h'[h.length]? = some (.lst ([s0, s1, s2, s3].map D.int)) ∧ h'[h.length + 1]? = some (.lst ([t0, t1, t2, t3].map D.int)) ∧ h'[d0]? = some (.lst [D.int 3, .int 2, .int 1, .int 0]) ∧
      σ = [some (.obj m), some (.obj m'), some (.int a), some (.int p), some (.obj h.length), some (.obj (h.length + 1)), some (.obj f), y7, y8, y9, none]) _ _ ⟨_, [], f0, none, none, none, .inl ⟨rfl, rfl, rfl⟩, rfl, pp, Pre.get p4 F3, Pre.get p4 (Pre.get p3 L2'), Pre.get p4 (Pre.get p3 M2), d4, rfl⟩ ?_ ?_ ?_
    · rintro ys σ h' ⟨_, _, _, _, _, _, _, _, _, _, _, _, e, _⟩
      exact dep1 e
    · rintro x ys σ h' ⟨ds, F, f, y7, y8, y9, alt, ef, hp', eF, eL, eM, eD, rfl⟩
      have go : ∀ (at_ : Int) (l mo : Int), L2.atI ([s0, s1, s2, s3].map D.int) at_ = some (.int l) → L2.atI ([t0, t1, t2, t3].map D.int) at_ = some (.int mo) → F.length < 1000 →
          Ok ((asT (callF P 100 (k + 1)) (.nm 7) (.int at_) [some (.obj m), some (.obj m'), some (.int a), some (.int p), some (.obj h.length), some (.obj (h.length + 1)), some (.obj f), y7, y8, y9, none] h').bind fun σ1 h2 => exSs (callF P 100 (k + 1)) 100 bodyW σ1 h2) fun fl h6 => ∃ (M : Nat) (z8 z9 : Option D), fl = .nx [some (.obj m), some (.obj m'), some (.int a), some (.int p), some (.obj h.length), some (.obj (h.length + 1)), some (.obj M), some (.int at_), z8, z9, none] ∧ h <+: h6 ∧ h6[M]? = some (.lst ((shft a p (mo - l) F).map .int)) ∧ ∀ (j : Nat) (o : O), h'[j]? = some o → h6[j]? = some o := by
        intro at_ l mo g1 g2 g3
        simp only [as_nm, Ev.R.bind_ok, List.set_cons_succ, List.set_cons_zero]
        exact turnW ha hp eF eL eM g1 g2 hp' g3
      rcases alt with ⟨e, rfl, hl⟩ | ⟨e, rfl, hl⟩ | ⟨e, rfl, hl⟩ | ⟨e, rfl, hl⟩ | ⟨e, rfl, hl⟩
      · injection e with e6 e7
        subst e6
        refine Ok.imp (go 3 s3 t3 l1.1 l2.1 (by omega)) ?_
        rintro fl h6 ⟨M', z8, z9, rfl, u1, u2, u3⟩
        exact ⟨_, shft a p (t3 - s3) F, M', _, _, _, .inr (.inl ⟨e7, rfl, by rw [shft_len]; omega⟩), ef, u1, u2, u3 _ _ eL, u3 _ _ eM, u3 _ _ eD, rfl⟩
      · injection e with e6 e7
        subst e6
        refine Ok.imp (go 2 s2 t2 l1.2.1 l2.2.1 (by omega)) ?_
        rintro fl h6 ⟨M', z8, z9, rfl, u1, u2, u3⟩
        exact ⟨_, shft a p (t2 - s2) F, M', _, _, _, .inr (.inr (.inl ⟨e7, rfl, by rw [shft_len]; omega⟩)), ef, u1, u2, u3 _ _ eL, u3 _ _ eM, u3 _ _ eD, rfl⟩
      · injection e with e6 e7
        subst e6
        refine Ok.imp (go 1 s1 t1 l1.2.2.1 l2.2.2.1 (by omega)) ?_
        rintro fl h6 ⟨M', z8, z9, rfl, u1, u2, u3⟩
        exact ⟨_, shft a p (t1 - s1) F, M', _, _, _, .inr (.inr (.inr (.inl ⟨e7, rfl, by rw [shft_len]; omega⟩))), ef, u1, u2, u3 _ _ eL, u3 _ _ eM, u3 _ _ eD, rfl⟩
      · injection e with e6 e7
        subst e6
        refine Ok.imp (go 0 s0 t0 l1.2.2.2 l2.2.2.2 (by omega)) ?_
        rintro fl h6 ⟨M', z8, z9, rfl, u1, u2, u3⟩
        exact ⟨_, shft a p (t0 - s0) F, M', _, _, _, .inr (.inr (.inr (.inr ⟨e7, rfl, by rw [shft_len]; omega⟩))), ef, u1, u2, u3 _ _ eL, u3 _ _ eM, u3 _ _ eD, rfl⟩
      · cases e
    · rintro σ h' ⟨ds, F, f, y7, y8, y9, alt, ef, hp', eF, eL, eM, eD, rfl⟩
      rcases alt with ⟨e, rfl, hl⟩ | ⟨e, rfl, hl⟩ | ⟨e, rfl, hl⟩ | ⟨e, rfl, hl⟩ | ⟨e, rfl, hl⟩
      · cases e
      · cases e
      · cases e
      · cases e
      · have ef : F = hor a p [t3 - s3, t2 - s2, t1 - s1, t0 - s0] := ef
        have hne : F ≠ [] := fun z => by rw [z] at hl; cases hl
        have mn : biop .min [.obj f] h' = .ok (.int (minL F)) h' := by
          simp only [biop, eF, biL, sumL_eq]
          cases F with
          | nil => exact absurd rfl hne
          | cons x F => rfl
        simp [mn, minL_all F hne]
        refine ⟨?_, hp'⟩
        rw [ef]
end K67

set_option Elab.async false
set_option linter.all false
set_option maxRecDepth 100000
set_option maxHeartbeats 4000000
namespace K67
open PySem Ev

/-- one start, as the law looks at it -/
def startL (es : List Int) (rows : List (List Int)) (es' : List Int) (rows' : List (List Int)) (per : Int) (rest : Nat) : D → Bool
  | .int a => decide ((max es.length es'.length : Nat) ≤ a) && decide (a ≤ 1000) && decide (a % per = rest) && wellB (rowAt rows a) (rowAt rows' a) a per && (plcs rest a per).all fun n => decide (lt es rows n ≤ lt es' rows' n)
  | _ => false
theorem start_eq {es es' : List Int} {rows rows' : List (List Int)} (R : Rows es rows) (R' : Rows es' rows') (per : Int) (rest : Nat) (x : D) : startB es (rows.map formF) es' (rows'.map formF) per rest x = startL es rows es' rows' per rest x := by
  cases x with
  | int a =>
    obtain ⟨f1, m1⟩ := fsAt_row R.pos a
    obtain ⟨f2, m2⟩ := fsAt_row R'.pos a
    simp only [startB, startL, f1, f2, stays_well (R.row _ m1) (R'.row _ m2), tv_lt R, tv_lt R']
  | _ => rfl
theorem s_start_holds {k : Nat} {h : Hh} {m m' : Nat} {es es' : List Int} {rows rows' : List (List Int)} {x : D} {per : Int} {rest : Nat} (Rw : Rows es rows) (Rw' : Rows es' rows') (pa : PairAt h m es rows) (pa' : PairAt h m' es' rows') (hx : (tyName h x).isSome = true) (hper : 1 ≤ per ∧ per < 1000) (hrest : rest < 1000) :
    callF P 100 (k + 3) 27 [.obj m, .obj m', .int rest, x, .int per] h = .ok (.bl (startL es rows es' rows' per rest x)) h := by
  refine call_pure (fd := f_law_start_holds) rfl rfl rfl ?_
  obtain ⟨n1, n2, ix, q1, q2, q3, q4, q5⟩ := pa.ex
  obtain ⟨n1', n2', ix', q1', q2', q3', q4', q5'⟩ := pa'.ex
  have i1 := items_obj q1
  have i1' := items_obj q1'
  have b1 : biop .len [.obj n1] h = .ok (.int es.length) h := by simp only [biop, q2, biL, List.length_map]
  have b1' : biop .len [.obj n1'] h = .ok (.int es'.length) h := by simp only [biop, q2', biL, List.length_map]
  cases x with
  | int a =>
    by_cases c0 : 0 ≤ a
    · by_cases c1 : a < 1001
      · by_cases c2 : a % per = (rest : Int)
        · by_cases c3 : a < (es.length : Int)
          · simp [f_law_start_holds, c0, c1, bin_mod (i := a) (show 0 < per by omega), c2, i1, i1', b1, b1', c3, startL]
            intro h1; omega
          · by_cases c4 : a < (es'.length : Int)
            · simp [f_law_start_holds, c0, c1, bin_mod (i := a) (show 0 < per by omega), c2, i1, i1', b1, b1', c3, c4, startL]
              intro h1 h2; omega
            · have w := s_starts_well (k := k) (h := h) (a := a) (p := per) Rw Rw' pa pa' (by constructor <;> omega) (by constructor <;> omega)
              cases c5 : wellB (rowAt rows a) (rowAt rows' a) a per with
              | false =>
                rw [c5] at w
                simp [f_law_start_holds, c0, c1, bin_mod (i := a) (show 0 < per by omega), c2, i1, i1', b1, b1', c3, c4, w, startL, c5]
              | true =>
                rw [c5] at w
                have rg := rng_3 (r := rest) (a := a) (per := per) hrest (by omega) (by omega)
                have len : (plcs rest a per).length ≤ 16777216 := by
                  unfold plcs
                  simp
                  unfold Builtin.Range.rangeSize
                  rw [if_pos (show per > 0 by omega)]
                  split
                  · have h2 : (a - rest - 1) / per ≤ a - rest - 1 := Int.ediv_le_self _ (by omega)
                    omega
                  · omega
                simp [f_law_start_holds, c0, c1, bin_mod (i := a) (show 0 < per by omega), c2, i1, i1', b1, b1', c3, c4, w, rg, len]
                rw [compD_map (g := fun x => x) rfl _ (fun x mx => by simp [wipeE])]
                simp only [List.map_id', ok_ok]
                have hpre : h <+: h ++ [O.lst ((plcs rest a per).map fun n => D.int (n : Nat))] := List.prefix_append _ _
                have hq : (h ++ [O.lst ((plcs rest a per).map fun n => D.int (n : Nat))])[h.length]? = some (.lst ((plcs rest a per).map fun n => D.int (n : Nat))) := by simp
                generalize hh : h ++ [O.lst ((plcs rest a per).map fun n => D.int (n : Nat))] = h2 at hpre hq ⊢
                have j1 := items_obj (Pre.get hpre q1)
                have j1' := items_obj (Pre.get hpre q1')
                simp [seq_obj' hq, len]
                rw [compD_map (g := fun x => .bl (match x with | .int i => decide (lt es rows i.toNat ≤ lt es' rows' i.toNat) | _ => false)) (dep1 hq) _ (fun x mx => by
                  obtain ⟨n, hn, rfl⟩ := List.mem_map.mp mx
                  have hn' : (n : Int) < a := plcs_lt (by omega) hn
                  have t1 := s_told (k := k + 1) (h := h2) (n := n) Rw (Pre.get hpre q2) (Pre.get hpre q3) q4 (fun i n r u v => Pre.get hpre (q5 i n r u v)) (by omega)
                  have t2 := s_told (k := k + 1) (h := h2) (n := n) Rw' (Pre.get hpre q2') (Pre.get hpre q3') q4' (fun i n r u v => Pre.get hpre (q5' i n r u v)) (by omega)
                  simp [wipeE, j1, j1', t1, t2])]
                simp only [ok_ok, biL_all]
                refine ⟨?_, hpre⟩
                have mx : ((max es.length es'.length : Nat) : Int) ≤ a := by omega
                have a1 : a ≤ 1000 := by omega
                simp only [startL, mx, a1, c2, c5, decide_true, Bool.true_and, Bool.and_true]
                rw [List.all_map]
                rfl
        · simp [f_law_start_holds, c0, c1, bin_mod (i := a) (show 0 < per by omega), c2, startL]
      · have c1' : ¬ a ≤ 1000 := by omega
        simp [f_law_start_holds, c0, c1, startL, c1']
    · have c0' : ¬ ((max es.length es'.length : Nat) : Int) ≤ a := by omega
      simp [f_law_start_holds, c0, startL]
      intro h1; omega
  | obj n =>
    obtain ⟨ty, hty⟩ := Option.isSome_iff_exists.mp hx
    have : ty = "list" := by
      simp only [tyName] at hty
      split at hty
      · cases hty; rfl
      · cases hty
    subst this
    simp [f_law_start_holds, hty, startL]
  | _ => simp [f_law_start_holds, startL]
end K67

set_option Elab.async false
set_option linter.all false
set_option maxRecDepth 100000
set_option maxHeartbeats 4000000
namespace K67
open PySem Ev

/-- a paper, as the law looks at it -/
def certL (es : List Int) (rows : List (List Int)) (es' : List Int) (rows' : List (List Int)) : D → Bool
  | .tup xs => decide ((xs.length : Int) = lcmI rows.length rows'.length) && ((List.range xs.length).all fun i => match xs[i]? with
    | some x => startL es rows es' rows' (lcmI rows.length rows'.length) i x
    | none => true)
  | _ => false
theorem cert_eq {es es' : List Int} {rows rows' : List (List Int)} (Rw : Rows es rows) (Rw' : Rows es' rows') (c : D) : certB es (rows.map formF) es' (rows'.map formF) c = certL es rows es' rows' c := by
  cases c with
  | tup xs =>
    simp only [certB, certL, List.length_map]
    congr 2
    funext i
    cases xs[i]? with
    | none => rfl
    | some x => exact start_eq Rw Rw' _ _ _
  | _ => rfl
theorem lcm_rows {a b : Nat} (ha : 1 ≤ a ∧ a ≤ 6) (hb : 1 ≤ b ∧ b ≤ 6) : 1 ≤ lcmI a b ∧ lcmI a b ≤ 30 := by
  have q := lcm_small (a := a) (b := b) (by omega) (by omega)
  refine ⟨q.1, ?_⟩
  have h1 : a = 1 ∨ a = 2 ∨ a = 3 ∨ a = 4 ∨ a = 5 ∨ a = 6 := by omega
  have h2 : b = 1 ∨ b = 2 ∨ b = 3 ∨ b = 4 ∨ b = 5 ∨ b = 6 := by omega
  rcases h1 with rfl | rfl | rfl | rfl | rfl | rfl <;> rcases h2 with rfl | rfl | rfl | rfl | rfl | rfl <;> decide
theorem s_holds {k : Nat} {h : Hh} {m m' : Nat} {es es' : List Int} {rows rows' : List (List Int)} {c : D} (Rw : Rows es rows) (Rw' : Rows es' rows') (pa : PairAt h m es rows) (pa' : PairAt h m' es' rows') (hc : (tyName h c).isSome = true) (hx : ∀ xs, c = .tup xs → ∀ x ∈ xs, (tyName h x).isSome = true) :
    callF P 100 (k + 4) 28 [.obj m, .obj m', c] h = .ok (.bl (certL es rows es' rows' c)) h := by
  refine call_pure (fd := f_law_holds) rfl rfl rfl ?_
  have e1 := s_period (k := k + 2) (h := h) Rw Rw' pa pa'
  have lp := lcm_rows (a := rows.length) (b := rows'.length) ⟨Rw.pos, Rw.few⟩ ⟨Rw'.pos, Rw'.few⟩
  generalize hper : lcmI rows.length rows'.length = per at *
  rcases ty_cases hc with ⟨xs, rfl⟩ | ⟨t, e, ne⟩
  · by_cases cl : (xs.length : Int) = per
    · have rg := rng_1 (n := xs.length) (by omega)
      have r2 := rangeD_from 0 xs.length
      simp only [Int.natCast_zero] at r2
      rw [r2] at rg
      subst cl
      simp [f_law_holds, e1, rg]
      rw [if_pos (by omega), compD_map (g := fun x => .bl (match x with | .int i => (match xs[i.toNat]? with | some x => startL es rows es' rows' xs.length i.toNat x | none => true) | _ => false)) rfl _ (fun x mx => by
        obtain ⟨i, hi, rfl⟩ := List.mem_map.mp mx
        have hi : i < xs.length := by
          have := List.mem_range'_1.mp hi
          omega
        have s1 := s_start_holds (k := k) (h := h) (m := m) (m' := m') (x := xs[i]) (per := (xs.length : Int)) (rest := i) Rw Rw' pa pa' (hx xs rfl _ (List.getElem_mem hi)) (by omega) (by omega)
        have a1 : L2.atI xs (i : Int) = some xs[i] := by rw [atI_nat hi, List.getElem?_eq_getElem hi]
        simp [wipeE, a1, s1, hi])]
      simp only [ok_ok, biL_all]
      refine ⟨?_, List.prefix_refl _⟩
      simp only [certL, hper, decide_true, Bool.true_and, List.all_map, List.range_eq_range']
      rfl
    · simp [f_law_holds, e1, cl, certL, hper]
  · have ne' : (t == "tuple") = false := by simp [ne]
    simp [f_law_holds, e1, e, ne']
    cases c with
    | tup xs => cases e; exact absurd rfl ne
    | _ => rfl
end K67

set_option Elab.async false
set_option linter.all false
set_option maxRecDepth 100000
set_option maxHeartbeats 4000000
namespace K67
open PySem Ev

mutual
theorem toP_mono {h h' : Hh} (hp : h <+: h') : ∀ (k : Nat) (d : D) (p : PyData), toP h k d = some p → toP h' k d = some p
  | _, .non, _, e => by simpa [toP] using e
  | _, .bl b, _, e => by simpa [toP] using e
  | _, .int b, _, e => by simpa [toP] using e
  | _, .str b, _, e => by simpa [toP] using e
  | k, .tup xs, p, e => by
    simp only [toP] at e ⊢
    obtain ⟨q, e1, e2⟩ := Option.map_eq_some_iff.mp e
    rw [toPs_mono hp k xs q e1]
    simpa using e2
  | k, .rol xs, p, e => by
    simp only [toP] at e ⊢
    obtain ⟨q, e1, e2⟩ := Option.map_eq_some_iff.mp e
    rw [toPs_mono hp k xs q e1]
    simpa using e2
  | 0, .obj n, p, e => by simp [toP] at e
  | k + 1, .obj n, p, e => by
    simp only [toP] at e ⊢
    cases q : h[n]? with
    | none => rw [q] at e; cases e
    | some o =>
      cases o with
      | lst xs =>
        rw [q] at e
        rw [Pre.get hp q]
        simp only at e ⊢
        obtain ⟨r, e1, e2⟩ := Option.map_eq_some_iff.mp e
        rw [toPs_mono hp k xs r e1]
        simpa using e2
theorem toPs_mono {h h' : Hh} (hp : h <+: h') : ∀ (k : Nat) (ds : List D) (p : List PyData), toPs h k ds = some p → toPs h' k ds = some p
  | _, [], _, e => by simpa [toPs] using e
  | k, d :: ds, p, e => by
    simp only [toPs] at e ⊢
    cases q1 : toP h k d with
    | none => rw [q1] at e; cases e
    | some a =>
      cases q2 : toPs h k ds with
      | none => rw [q1, q2] at e; cases e
      | some b =>
        rw [q1, q2] at e
        rw [toP_mono hp k d a q1, toPs_mono hp k ds b q2]
        exact e
end
/-- what repr can show -/
structure Shows (h : Hh) (d : D) : Prop where
  ex : ∃ p, toP h 7 d = some p ∧ p.showable = true ∧ p.hasDict = false ∧ p.depth ≤ 50 ∧ p.shown.length ≤ 1000000
theorem Shows.pre {h h' : Hh} {d : D} (s : Shows h d) (hp : h <+: h') : Shows h' d := by
  obtain ⟨p, a, b⟩ := s.ex
  exact ⟨p, toP_mono hp 7 d p a, b⟩
theorem listText2 (x y : Str) : (listText [x, y]).length ≤ x.length + y.length + 10 := by
  show (((("[" : Str) ++ (("" : String) : Str) ++ x) ++ ((", " : String) : Str) ++ y) ++ ("]" : Str)).length ≤ _
  simp only [strLen_append]
  have h1 : ("[" : Str).length = 1 := by decide +kernel
  have h2 : ("]" : Str).length = 1 := by decide +kernel
  have h3 : ((", " : String) : Str).length = 2 := by decide +kernel
  have h4 : (("" : String) : Str).length = 0 := by decide +kernel
  omega
/-- the text of [a, b] -/
theorem repr_two {h : Hh} {a b : D} (sa : Shows h a) (sb : Shows h b) : ∃ t : Str, ∀ h' : Hh, h <+: h' → ∀ n : Nat, h'[n]? = some (.lst [a, b]) → biop .repr [.obj n] h' = .ok (.str t) h' := by
  obtain ⟨p, a1, a2, a3, a4, a5⟩ := sa.ex
  obtain ⟨q, b1, b2, b3, b4, b5⟩ := sb.ex
  refine ⟨(PyData.list [p, q]).shown, fun h' hp n e => ?_⟩
  have t : toP h' 8 (.obj n) = some (.list [p, q]) := by
    rw [toP, e]
    simp only [toPs, toP_mono hp 7 a p a1, toP_mono hp 7 b q b1]
    rfl
  have c1 : (PyData.list [p, q]).showable = true := by simp [PyData.showable, PyData.showableAll, a2, b2]
  have c2 : (PyData.list [p, q]).hasDict = false := by simp [PyData.hasDict, PyData.hasDictAll, a3, b3]
  have c3 : (PyData.list [p, q]).depth ≤ 60 := by simp [PyData.depth, PyData.depthAll]; omega
  have c4 : (PyData.list [p, q]).shown.length ≤ sizeLine := by
    show (listText [p.shown, q.shown]).length ≤ sizeLine
    have := listText2 p.shown q.shown
    rw [sz_val]
    omega
  show (match toP h' 8 (.obj n) with
    | some p => if (isRefD (.obj n) && p.showable && !p.hasDict && decide (p.depth ≤ 60) && decide (p.shown.length ≤ sizeLine)) = true then (R.ok (D.str p.shown) h' : R D) else .bad
    | none => .bad) = _
  rw [t]
  simp only [c1, c2, c3, c4, isRefD]
  rfl
theorem s_asked {k : Nat} {h : Hh} {pr pa : D} {b due : Bool} (sp : Shows h pr) (sa : Shows h pa) (acc : ∀ h', h <+: h' → callF P 100 (k + 8) 17 [pr, pa] h' = .ok (.bl b) h') : callF P 100 (k + 9) 20 [pr, pa, .bl due] h = .ok (.bl (b == due)) h := by
  refine call_pure (fd := f_law_asked) rfl rfl rfl ?_
  obtain ⟨t, ht⟩ := repr_two sp sa
  have p1 : h <+: h ++ [O.lst [pr, pa]] := List.prefix_append _ _
  have r1 := ht (h ++ [O.lst [pr, pa]]) p1 h.length (by simp)
  have a1 := acc _ p1
  have p2 : h <+: h ++ [O.lst [pr, pa]] ++ [O.lst [.bl b, .bl b]] := p1.trans (List.prefix_append _ _)
  have p3 : h <+: h ++ [O.lst [pr, pa]] ++ [O.lst [.bl b, .bl b]] ++ [O.lst [.bl due, .bl due]] := p2.trans (List.prefix_append _ _)
  have e3 := eqD_obj (h := h ++ [O.lst [pr, pa]] ++ [O.lst [.bl b, .bl b]] ++ [O.lst [.bl due, .bl due]]) (n := h.length + 1) (m := h.length + 2) (xs := [.bl b, .bl b]) (ys := [.bl due, .bl due]) (by simp) (by simp) (by simp [clns_all]) (by simp [clns_all])
  have i3 := items_obj (h := h ++ [O.lst [pr, pa]] ++ [O.lst [.bl b, .bl b]] ++ [O.lst [.bl due, .bl due]]) (n := h.length + 1) (xs := [.bl b, .bl b]) (by simp)
  have r4 := ht (h ++ [O.lst [pr, pa]] ++ [O.lst [.bl b, .bl b]] ++ [O.lst [.bl due, .bl due]] ++ [O.lst [pr, pa]]) (p3.trans (List.prefix_append _ _)) (h.length + 3) (by simp)
  simp only [List.append_assoc, List.cons_append, List.nil_append] at *
  simp [f_law_asked, r1, a1, cmp_eq, e3, i3, r4]
  cases b <;> cases due <;> simp [pds, pd, PyData.eqvAll, PyData.eqv, eqD]
end K67

set_option Elab.async false
set_option linter.all false
set_option maxRecDepth 100000
set_option maxHeartbeats 4000000
namespace K67
open PySem Ev

/-- the form of the row that stands at a number -/
def fmOf (h : Hh) : D → D
  | .obj n => match h[n]? with
    | some (.lst l) => fmD (formF ((toInts l).getD []))
    | none => .non
  | _ => .non
theorem fmOf_row {h : Hh} {n : Nat} {r : List Int} (e : RowAt h n r) : fmOf h (.obj n) = fmD (formF r) := by
  have e : h[n]? = some (.lst (r.map .int)) := e
  simp only [fmOf, e, sumL_eq, Option.getD_some]
theorem forms_map {h : Hh} {ix : List Nat} {rows : List (List Int)} (d : ix.length = rows.length) (e : ∀ (i n : Nat) (r : List Int), ix[i]? = some n → rows[i]? = some r → RowAt h n r) : (ix.map D.obj).map (fmOf h) = (rows.map formF).map fmD := by
  apply List.ext_getElem (by simpa using d)
  intro i h1 h2
  have l1 : i < ix.length := by simpa using h1
  have l2 : i < rows.length := by simpa using h2
  simp only [List.getElem_map]
  exact fmOf_row (e i _ _ (List.getElem?_eq_getElem l1) (List.getElem?_eq_getElem l2))
def claimD (es : List Int) (rows : List (List Int)) (es' : List Int) (rows' : List (List Int)) : D := .tup [.str kw, .tup (es.map .int), fsD (rows.map formF), .tup (es'.map .int), fsD (rows'.map formF)]
theorem promise_part {k : Nat} {h : Hh} {m : Nat} {es : List Int} {rows : List (List Int)} {x0 x1 x2 x4 : Option D} (Rw : Rows es rows) (pa : PairAt h m es rows) :
    evE (callF P 100 (k + 2)) (.tup (.cons (.bi .tuple (.cons (.idx (.var 3) (.lit (.int (0)))) .nil)) (.cons (.bq .tuple (.mk (.call 23 (.cons (.var 4) .nil)) (.nm 4) (.seq (.idx (.var 3) (.lit (.int (1))))) .no [4])) .nil))) [x0, x1, x2, some (.obj m), x4] h = .ok (.tup [.tup (es.map .int), fsD (rows.map formF)]) h := by
  obtain ⟨n1, n2, ix, q1, q2, q3, q4, q5⟩ := pa.ex
  have i1 := items_obj q1
  have b1 : biop .tuple [.obj n1] h = .ok (.tup (es.map .int)) h := by simp only [biop, q2, biL]
  have hl : (ix.map D.obj).length ≤ 16777216 := by have := Rw.few; simp; omega
  simp [i1, b1, seq_obj' q3]
  rw [if_pos (by simpa using hl), compD_map (g := fmOf h) (dep1 q3) _ (fun x mx => by
    obtain ⟨n, hn, rfl⟩ := List.mem_map.mp mx
    obtain ⟨i, ei⟩ := List.getElem?_of_mem hn
    have hi : i < rows.length := by have := (List.getElem?_eq_some_iff.mp ei).1; omega
    have rr := q5 i n _ ei (List.getElem?_eq_getElem hi)
    have f := s_form_of (k := k) rr (Rw.row _ (List.getElem_mem hi))
    simp [wipeE, f, fmOf_row rr])]
  simp [biL]
  have := forms_map q4 q5
  unfold fsD
  rw [← this]
  simp
theorem s_promise {k : Nat} {h : Hh} {m m' : Nat} {es es' : List Int} {rows rows' : List (List Int)} (Rw : Rows es rows) (Rw' : Rows es' rows') (pa : PairAt h m es rows) (pa' : PairAt h m' es' rows') :
    callF P 100 (k + 3) 33 [.obj m, .obj m'] h = .ok (claimD es rows es' rows') h := by
  refine call_pure (fd := f_law_promise) rfl rfl ?_ ?_
  · refine lts_zero_mono ?_
    have l1 : ∀ xs : List Int, D.lts 0 (xs.map D.int) = true := fun xs => by
      have := clns_int 1 xs
      unfold clns at this
      simp only [Bool.and_eq_true] at this
      exact this.1.1
    have l2 : ∀ fs, D.lt 0 (fsD fs) = true := fun fs => cln_lt (cln_fs (fs := fs))
    simp [claimD, D.lt, D.lts, l1, l2]
  · show Ok (exSs (callF P 100 (k + 2)) 100 f_law_promise.body [some (.obj m), some (.obj m'), none, none, none] h) _
    unfold f_law_promise
    have p1 : h <+: h ++ [O.lst [D.obj m, .obj m']] := List.prefix_append _ _
    have dk : depOk (h ++ [O.lst [D.obj m, .obj m']]) [(h.length, [D.obj m, .obj m'])] = true := by simp [depOk]
    have a1 := fun x0 x1 x2 x4 => promise_part (k := k) (h := h ++ [O.lst [D.obj m, .obj m']]) (x0 := x0) (x1 := x1) (x2 := x2) (x4 := x4) Rw (pa.old (.pre p1))
    have a2 := fun x0 x1 x2 x4 => promise_part (k := k) (h := h ++ [O.lst [D.obj m, .obj m']]) (x0 := x0) (x1 := x1) (x2 := x2) (x4 := x4) Rw' (pa'.old (.pre p1))
    have eC : evC (callF P 100 (k + 2)) (.mk (.tup (.cons (.bi .tuple (.cons (.idx (.var 3) (.lit (.int (0)))) .nil)) (.cons (.bq .tuple (.mk (.call 23 (.cons (.var 4) .nil)) (.nm 4) (.seq (.idx (.var 3) (.lit (.int (1))))) .no [4])) .nil))) (.nm 3) (.seq (.lst (.cons (.var 0) (.cons (.var 1) .nil)))) .no [3]) [some (.obj m), some (.obj m'), none, none, none] h
        = .ok [.tup [.tup (es.map .int), fsD (rows.map formF)], .tup [.tup (es'.map .int), fsD (rows'.map formF)]] (h ++ [O.lst [D.obj m, .obj m']]) := by
      rw [e_mk]
      rw [show evI (callF P 100 (k + 2)) (.seq (.lst (.cons (.var 0) (.cons (.var 1) .nil)))) [some (.obj m), some (.obj m'), none, none, none] h = .ok ([.obj m, .obj m'], [(h.length, [.obj m, .obj m'])]) (h ++ [O.lst [D.obj m, .obj m']]) by
        simp [seq_obj' (h := h ++ [O.lst [D.obj m, .obj m']]) (n := h.length) (xs := [.obj m, .obj m']) (by simp)]]
      simp only [R.bind_ok, List.length_cons, List.length_nil, sz_val]
      rw [if_pos (by decide)]
      simp only [compD, dk, if_true, as_nm, wipeE, R.bind_ok, List.set_cons_succ, List.set_cons_zero, t_no, a1, a2, List.nil_append, List.cons_append]
    rw [xs_cons, ok_bind, x_asg, ok_bind, e_comp, ok_bind, eC, ok_ok, ok_ok]
    simp only [as_nm, List.set_cons_succ, List.set_cons_zero, R.bind_ok, ok_ok]
    have it := items_obj (h := h ++ [O.lst [D.obj m, .obj m']] ++ [O.lst [.tup [.tup (es.map .int), fsD (rows.map formF)], .tup [.tup (es'.map .int), fsD (rows'.map formF)]]]) (n := (h ++ [O.lst [D.obj m, .obj m']]).length) (xs := [.tup [.tup (es.map .int), fsD (rows.map formF)], .tup [.tup (es'.map .int), fsD (rows'.map formF)]]) (by simp)
    have ad : ∀ (x y : List D) (h : Hh), x.length + y.length ≤ 100 → binop .add (.tup x) (.tup y) h = .ok (.tup (x ++ y)) h := fun x y h l => by
      simp only [binop, sz_val]
      rw [if_pos (by omega)]
    have k3 : kw = ("at most" : Str) := rfl
    rw [← k3]
    have pz : h <+: h ++ [O.lst [D.obj m, .obj m']] ++ [O.lst [.tup [.tup (es.map .int), fsD (rows.map formF)], .tup [.tup (es'.map .int), fsD (rows'.map formF)]]] := p1.trans (List.prefix_append _ _)
    generalize h ++ [O.lst [D.obj m, .obj m']] ++ [O.lst [.tup [.tup (es.map .int), fsD (rows.map formF)], .tup [.tup (es'.map .int), fsD (rows'.map formF)]]] = h2 at it pz ⊢
    generalize (h ++ [O.lst [D.obj m, .obj m']]).length = N at it ⊢
    simp [it, ad]
    exact ⟨by simp [claimD], pz⟩
end K67

set_option Elab.async false
set_option linter.all false
set_option maxRecDepth 100000
set_option maxHeartbeats 4000000
namespace K67
open PySem Ev

theorem rol_nil {h : Hh} {m : Nat} {ns : List Int} (e : h[m]? = some (.lst [])) : cmpop h .ne (.rol (ns.map .int)) (.obj m) = some (!ns.isEmpty) := by
  have c := clns_int 7 ns
  have d1 : D.lts 0 (ns.map D.int) = true ∧ PyData.canLayAll0 (pds (ns.map .int)) = true ∧ PyData.depthAll (pds (ns.map .int)) ≤ 7 := by
    unfold clns at c; simp only [Bool.and_eq_true, decide_eq_true_eq] at c; exact ⟨c.1.1, c.1.2, c.2⟩
  have e0 : eqD h (.rol (ns.map .int)) (.obj m) = match toP h 8 (.rol (ns.map .int)), toP h 8 (.obj m) with
    | some p, some q => if SeqAt.shaped p = true ∧ SeqAt.shaped q = true then some (PyData.eqv p q) else none
    | _, _ => none := rfl
  have s1 : SeqAt.shaped (pd (.rol (ns.map .int))) = true := by
    unfold SeqAt.shaped
    simp [pd, PyData.canLay0, PyData.depth, d1.2.1]
    omega
  have s2 : SeqAt.shaped (.list (pds [])) = true := by decide
  rw [cmp_ne, e0, toP_obj e rfl, toP_pd 8 (.rol (ns.map .int)) d1.1]
  simp only [s1, s2, and_self, if_true]
  cases ns <;> simp [pd, PyData.eqv, pds, PyData.eqvAll]
theorem s_purse {k : Nat} {h : Hh} {ns : List Int} {i : Nat} (hn : ns.length ≤ 63) (hi : i < 3) : Ok (callF P 100 (k + 1) 18 [.rol (ns.map .int), .int i] h) fun r h' => ∃ q, r = .obj q ∧ h <+: h' ∧ h.length ≤ q ∧ PurseAt h' q := by
  refine call_ok (fd := f_law_purse) rfl rfl ?_
  have c1 := rol_nil (h := h ++ [O.lst []]) (m := h.length) (ns := ns) (by simp)
  have pw : ∀ h : Hh, binop .pow (.int 10) (.int 18) h = .ok (.int 1000000000000000000) h := fun h => by
    simp only [binop]
    rw [if_pos (by decide)]
    rfl
  have ln : ∀ h : Hh, biop .len [.rol (ns.map .int)] h = .ok (.int ns.length) h := fun h => by
    show R.ok (D.int ((ns.map D.int).length : Nat)) h = _
    rw [List.length_map]
  -- what is found, whatever it is
  have tail : ∀ (cell last : Int), Ok (exSs (callF P 100 k) 100 (.cons (.asg (.nm 2) (.ife (.cmp .ge (.var 4) (.bin .pow (.lit (.int (10))) (.lit (.int (18))))) (.bin .sub (.var 4) (.bin .pow (.lit (.int (10))) (.lit (.int (18))))) (.ife (.cmp .lt (.var 4) (.lit (.int (0)))) (.bin .sub (.bin .sub (.lit (.int (0))) (.var 4)) (.lit (.int (1)))) (.lit (.int (0))))))
      (.cons (.asg (.nm 3) (.bin .mod (.bi .int (.cons (.bin .add (.bin .add (.bin .add (.bin .mul (.var 4) (.lit (.int (92821)))) (.bin .mul (.var 5) (.lit (.int (30011))))) (.bin .mul (.var 1) (.lit (.int (7207))))) (.lit (.int (60013)))) .nil)) (.lit (.int (1000000007)))))
      (.cons (.ret (.lst (.cons (.var 2) (.cons (.var 3) (.cons (.var 1) .nil)))))
      .nil))) [some (.rol (ns.map .int)), some (.int i), none, none, some (.int cell), some (.int last)] (h ++ [O.lst []])) fun fl h' => ∃ d, fl.val = some d ∧ Ok (fin h d h') fun r h' => ∃ q, r = .obj q ∧ h <+: h' ∧ h.length ≤ q ∧ PurseAt h' q := by
    intro cell last
    have b0 : 0 ≤ (cell * 92821 + last * 30011 + (i : Int) * 7207 + 60013) % 1000000007 := Int.emod_nonneg _ (by decide)
    have b1 : (cell * 92821 + last * 30011 + (i : Int) * 7207 + 60013) % 1000000007 < 1000000007 := Int.emod_lt_of_pos _ (by decide)
    have fn : ∀ l : O, Ok (fin h (.obj (h.length + 1)) (h ++ [O.lst []] ++ [l])) fun r h' => r = .obj (h.length + 1) ∧ h' = h ++ [O.lst []] ++ [l] := fun l => by
      rw [fin_new (by simp [D.lt])]
      exact ⟨rfl, rfl⟩
    have fin' : ∀ dg : Int, 0 ≤ dg → Ok (fin h (.obj (h.length + 1)) (h ++ [O.lst []] ++ [O.lst [.int dg, .int ((cell * 92821 + last * 30011 + (i : Int) * 7207 + 60013) % 1000000007), .int i]])) fun r h' => ∃ q, r = .obj q ∧ h <+: h' ∧ h.length ≤ q ∧ PurseAt h' q := fun dg hd =>
      (fn _).imp fun r h' ⟨e1, e2⟩ => by
        subst e1 e2
        exact ⟨_, rfl, by rw [List.append_assoc]; exact List.prefix_append _ _, by omega, dg, (cell * 92821 + last * 30011 + (i : Int) * 7207 + 60013) % 1000000007, (i : Int), by simp, hd, b0, b1⟩
    by_cases g1 : (1000000000000000000 : Int) ≤ cell
    · have := fin' (cell - 1000000000000000000) (by omega)
      simp [pw, g1, bin_mul_r (i := cell) (j := 92821) (by decide), bin_mul_r (i := last) (j := 30011) (by decide), bin_mul_r (i := (i : Int)) (j := 7207) (by decide), bin_mod (j := 1000000007) (by decide)]
      simpa using this
    · by_cases g2 : cell < 0
      · have := fin' (0 - cell - 1) (by omega)
        simp [pw, g1, g2, bin_mul_r (i := cell) (j := 92821) (by decide), bin_mul_r (i := last) (j := 30011) (by decide), bin_mul_r (i := (i : Int)) (j := 7207) (by decide), bin_mod (j := 1000000007) (by decide)]
        simpa using this
      · have := fin' 0 (by omega)
        simp [pw, g1, g2, bin_mul_r (i := cell) (j := 92821) (by decide), bin_mul_r (i := last) (j := 30011) (by decide), bin_mul_r (i := (i : Int)) (j := 7207) (by decide), bin_mod (j := 1000000007) (by decide)]
        simpa using this
  show Ok (exSs (callF P 100 k) 100 f_law_purse.body [some (.rol (ns.map .int)), some (.int i), none, none, none, none] h) _
  unfold f_law_purse
  rw [xs_cons, ok_bind, show exS (callF P 100 k) 100 (.asg (.tp (.cons (.nm 4) (.cons (.nm 5) .nil))) (.tup (.cons (.lit (.int (0))) (.cons (.lit (.int (0))) .nil)))) [some (.rol (ns.map .int)), some (.int i), none, none, none, none] h = .ok (.nx [some (.rol (ns.map .int)), some (.int i), none, none, some (.int 0), some (.int 0)]) h by simp, ok_ok]
  simp only []
  have two : ∃ last : Int, exS (callF P 100 k) 100 (.ite (.cmp .ne (.var 0) (.lst .nil)) (.cons (.asg (.nm 5) (.idx (.var 0) (.neg (.lit (.int (1)))))) .nil) .nil) [some (.rol (ns.map .int)), some (.int i), none, none, some (.int 0), some (.int 0)] h = .ok (.nx [some (.rol (ns.map .int)), some (.int i), none, none, some (.int 0), some (.int last)]) (h ++ [O.lst []]) := by
    rcases List.eq_nil_or_concat ns with rfl | ⟨n0, x, hx⟩
    · refine ⟨0, ?_⟩
      have c1 : cmpop (h ++ [O.lst []]) .ne (.rol []) (.obj h.length) = some false := c1
      simp [c1]
    · rw [List.concat_eq_append] at hx
      subst hx
      have ne : (n0 ++ [x]).isEmpty = false := by cases n0 <;> rfl
      rw [ne] at c1
      have la : L2.atI ((n0 ++ [x]).map D.int) (-1) = some (.int x) := by
        rw [atI_last (xs := (n0 ++ [x]).map D.int) (by simp)]
        simp
      refine ⟨x, ?_⟩
      simp only [List.map_append, List.map_cons, List.map_nil] at la c1
      simp [c1, la]
  obtain ⟨last, e2⟩ := two
  rw [xs_cons, ok_bind, e2, ok_ok]
  simp only []
  have three : ∃ cell : Int, exS (callF P 100 k) 100 (.ite (.cmp .lt (.var 1) (.bi .len (.cons (.var 0) .nil))) (.cons (.asg (.nm 4) (.idx (.var 0) (.var 1))) .nil) .nil) [some (.rol (ns.map .int)), some (.int i), none, none, some (.int 0), some (.int last)] (h ++ [O.lst []]) = .ok (.nx [some (.rol (ns.map .int)), some (.int i), none, none, some (.int cell), some (.int last)]) (h ++ [O.lst []]) := by
    by_cases c : i < ns.length
    · have a1 : L2.atI (ns.map D.int) (i : Int) = some (.int ns[i]) := by
        rw [atI_nat (by simpa using c)]
        simp [c]
      exact ⟨ns[i], by simp [ln, c, a1]⟩
    · exact ⟨0, by simp [ln, c]⟩
  obtain ⟨cell, e3⟩ := three
  rw [xs_cons, ok_bind, e3, ok_ok]
  exact tail cell last
end K67

set_option Elab.async false
set_option linter.all false
set_option maxRecDepth 100000
set_option maxHeartbeats 4000000
namespace K67
open PySem Ev

/-- a row as drawn -/
def RowS (r : List Int) : Prop := r.length = 4 ∧ ∀ x ∈ r, -50 ≤ x ∧ x ≤ 50
theorem RowS.row {r : List Int} (h : RowS r) : Row r := ⟨h.1, fun x hx => by have := h.2 x hx; constructor <;> omega⟩
/-- a draw within an expression -/
theorem e_draw {k : Nat} {h : Hh} {σ : En} {q : Nat} {m : Int} {es : Es} {Q : D → Hh → Prop} (hs : evEs (callF P 100 (k + 1)) es σ h = .ok [.obj q, .int m] h) (p : PurseAt h q) (hm : 1 ≤ m ∧ m < 1000) (f : ∀ (i : Int) (h' : Hh), 0 ≤ i → i < m → PurseAt h' q → h'.length = h.length → Kp q h h' → Q (.int i) h') :
    Ok (evE (callF P 100 (k + 1)) (.call 19 es) σ h) Q := by
  rw [e_call, hs]
  simp only [Ev.R.bind_ok]
  refine (s_draw p hm).imp fun r h' ⟨i, e, a, b, c, d, g⟩ => ?_
  subst e
  exact f i h' a b c d g
def bodyR : Ss := (.cons (.asg (.nm 4) (.lst (.cons (.bin .sub (.call 19 (.cons (.var 0) (.cons (.lit (.int (30))) .nil))) (.lit (.int (8)))) (.cons (.bin .sub (.call 19 (.cons (.var 0) (.cons (.lit (.int (12))) .nil))) (.lit (.int (4)))) (.cons (.bin .sub (.call 19 (.cons (.var 0) (.cons (.lit (.int (5))) .nil))) (.lit (.int (1)))) .nil)))))
      (.cons (.app (.var 2) (.bin .add (.var 4) (.lst (.cons (.call 19 (.cons (.var 0) (.cons (.lit (.int (2))) .nil))) .nil))))
      .nil))
theorem turnR {k : Nat} {h : Hh} {q m : Nat} {L : List D} {x1 x3 x4 : Option D} (p : PurseAt h q) (hm : h[m]? = some (.lst L)) (hqm : m ≠ q) (hL : L.length < 1000) :
    Ok (exSs (callF P 100 (k + 1)) 100 bodyR [some (.obj q), x1, some (.obj m), x3, x4] h) fun fl h' => ∃ (z : Option D) (r : List Int) (N : Nat), fl = .nx [some (.obj q), x1, some (.obj m), x3, z] ∧ RowS r ∧ PurseAt h' q ∧ h'[m]? = some (.lst (L ++ [.obj N])) ∧ RowAt h' N r ∧ h.length ≤ N ∧ h.length ≤ h'.length ∧ ∀ (j : Nat) (o : O), j ≠ q → j ≠ m → h[j]? = some o → h'[j]? = some o := by
  have hq : q < h.length := by obtain ⟨_, _, _, e, _⟩ := p; exact (List.getElem?_eq_some_iff.mp e).1
  have hml : m < h.length := (List.getElem?_eq_some_iff.mp hm).1
  have es : ∀ (n : Int) (h : Hh) (z : Option D), evEs (callF P 100 (k + 1)) (.cons (.var 0) (.cons (.lit (.int n)) .nil)) [some (.obj q), x1, some (.obj m), x3, z] h = .ok [.obj q, .int n] h := fun n h z => by simp
  unfold bodyR
  rw [xs_cons, ok_bind, x_asg, ok_bind, e_lst, ok_bind, es_cons, ok_bind, e_bin, ok_bind]
  refine e_draw (es 30 _ _) p (by decide) fun i1 h1 a1 b1 p1 l1 k1 => ?_
  rw [ok_bind, e_lit, ok_ok, bin_sub_int, ok_ok, ok_bind, es_cons, ok_bind, e_bin, ok_bind]
  refine e_draw (es 12 _ _) p1 (by decide) fun i2 h2 a2 b2 p2 l2 k2 => ?_
  rw [ok_bind, e_lit, ok_ok, bin_sub_int, ok_ok, ok_bind, es_cons, ok_bind, e_bin, ok_bind]
  refine e_draw (es 5 _ _) p2 (by decide) fun i3 h3 a3 b3 p3 l3 k3 => ?_
  have len3 : h3.length = h.length := by omega
  have kk := (k1.trans k2).trans k3
  simp only [e_lit, Ev.R.bind_ok, bin_sub_int, es_nil, ok_bind, ok_ok, List.length_cons, List.length_nil, sz_val]
  rw [if_pos (by decide)]
  simp only [ok_ok, as_nm, List.set_cons_succ, List.set_cons_zero, Ev.R.bind_ok]
  rw [xs_cons, ok_bind, x_app, ok_bind]
  simp only [e_var, getV_eq, List.getElem?_cons_succ, List.getElem?_cons_zero, ok_ok]
  rw [ok_bind, e_bin, ok_bind]
  simp only [e_var, getV_eq, List.getElem?_cons_succ, List.getElem?_cons_zero, ok_ok]
  rw [ok_bind, e_lst, ok_bind, es_cons, ok_bind]
  have p4 : PurseAt (h3 ++ [O.lst [.int (i1 - 8), .int (i2 - 4), .int (i3 - 1)]]) q := by
    obtain ⟨d, s, t, e, r⟩ := p3
    exact ⟨d, s, t, Pre.get (List.prefix_append _ _) e, r⟩
  refine e_draw (es 2 _ _) p4 (by decide) fun i4 h4 a4 b4 p5 l4 k4 => ?_
  have e3 : h4[h3.length]? = some (.lst [.int (i1 - 8), .int (i2 - 4), .int (i3 - 1)]) := k4.at_ _ _ (by omega) (by simp)
  have l4' : h4.length = h.length + 1 := by rw [l4]; simp; omega
  have hm4 : h4[m]? = some (.lst L) := k4.at_ _ _ hqm (Pre.get (List.prefix_append _ _) (kk.at_ _ _ hqm hm))
  have ad := bin_add_obj (h := h4 ++ [O.lst [.int i4]]) (n := h3.length) (m := h4.length) (xs := [.int (i1 - 8), .int (i2 - 4), .int (i3 - 1)]) (ys := [.int i4]) (Pre.get (List.prefix_append _ _) e3) (by simp) (by simp)
  simp only [es_nil, Ev.R.bind_ok, ok_ok, List.length_cons, List.length_nil, sz_val]
  rw [if_pos (by decide)]
  simp only [ok_ok, ad]
  have hm6 : (h4 ++ [O.lst [.int i4]] ++ [O.lst ([.int (i1 - 8), .int (i2 - 4), .int (i3 - 1)] ++ [.int i4])])[m]? = some (.lst L) := Pre.get (by rw [List.append_assoc]; exact List.prefix_append _ _) hm4
  have ap : appop (.obj m) (.obj (h4 ++ [O.lst [D.int i4]]).length) (h4 ++ [O.lst [.int i4]] ++ [O.lst ([.int (i1 - 8), .int (i2 - 4), .int (i3 - 1)] ++ [.int i4])]) = .ok () ((h4 ++ [O.lst [.int i4]] ++ [O.lst ([.int (i1 - 8), .int (i2 - 4), .int (i3 - 1)] ++ [.int i4])]).set m (.lst (L ++ [.obj (h4 ++ [O.lst [D.int i4]]).length]))) := by
    simp only [appop, hm6, sz_val]
    rw [if_pos (by omega)]
  simp only [ap, Ev.R.bind_ok, ok_ok, xs_nil]
  refine ⟨_, [i1 - 8, i2 - 4, i3 - 1, i4], (h4 ++ [O.lst [D.int i4]]).length, rfl, ⟨rfl, ?_⟩, ?_, ?_, ?_, ?_, ?_, ?_⟩
  · intro x hx
    simp only [List.mem_cons, List.not_mem_nil, or_false] at hx
    rcases hx with rfl | rfl | rfl | rfl <;> omega
  · obtain ⟨d, s, t, e, r⟩ := p5
    refine ⟨d, s, t, ?_, r⟩
    rw [List.getElem?_set_ne hqm]
    exact Pre.get (by rw [List.append_assoc]; exact List.prefix_append _ _) e
  · rw [List.getElem?_set_self (by simp; omega)]
  · show _ = _
    rw [List.getElem?_set_ne (by simp; omega)]
    simp
  · simp; omega
  · simp; omega
  · intro j o j1 j2 e
    rw [List.getElem?_set_ne (Ne.symm j2)]
    exact Pre.get (by rw [List.append_assoc]; exact List.prefix_append _ _) (k4.at_ _ _ j1 (Pre.get (List.prefix_append _ _) (kk.at_ _ _ j1 e)))
/-- rows stand at the numbers ix -/
def RowsAt (h : Hh) (ix : List Nat) (rows : List (List Int)) : Prop := ix.length = rows.length ∧ ∀ (i n : Nat) (r : List Int), ix[i]? = some n → rows[i]? = some r → RowAt h n r
theorem RowsAt.old {h h' : Hh} {ix : List Nat} {rows : List (List Int)} (a : RowsAt h ix rows) (f : ∀ n ∈ ix, ∀ o, h[n]? = some o → h'[n]? = some o) : RowsAt h' ix rows :=
  ⟨a.1, fun i n r e1 e2 => f n (List.mem_of_getElem? e1) _ (a.2 i n r e1 e2)⟩
theorem RowsAt.snoc {h : Hh} {ix : List Nat} {rows : List (List Int)} {N : Nat} {r : List Int} (a : RowsAt h ix rows) (b : RowAt h N r) : RowsAt h (ix ++ [N]) (rows ++ [r]) := by
  refine ⟨by simp [a.1], fun i n r' e1 e2 => ?_⟩
  rcases get_push e1 with ⟨l, e1⟩ | ⟨l, rfl⟩
  · rw [List.getElem?_append_left (by rw [← a.1]; exact l)] at e2
    exact a.2 i n r' e1 e2
  · rw [l, a.1, List.getElem?_append_right (Nat.le_refl _), Nat.sub_self] at e2
    cases e2
    exact b
theorem rows_ent {a b : D} : ent f_law_rows [a, b] = [some a, some b, none, none, none] := rfl
theorem rows_call {k : Nat} {h : Hh} {a b : D} {Q : D → Hh → Prop} (b' : Ok (exSs (callF P 100 k) 100 f_law_rows.body [some a, some b, none, none, none] h) fun fl h' => ∃ d, fl.val = some d ∧ Ok (fin h d h') Q) : Ok (callF P 100 (k + 1) 31 [a, b] h) Q := by
  have hf : P 31 = some f_law_rows := rfl
  rw [← rows_ent] at b'
  exact call_ok hf rfl b'
theorem s_rows {k : Nat} {h : Hh} {q n : Nat} (p : PurseAt h q) (hn : n ≤ 6) : ∃ (d : D) (h' : Hh), callF P 100 (k + 2) 31 [.obj q, .int n] h = .ok d h' ∧ ∃ (m : Nat) (ix : List Nat) (rows : List (List Int)), d = .obj m ∧ h'[m]? = some (.lst (ix.map .obj)) ∧ RowsAt h' ix rows ∧ rows.length = n ∧ (∀ r ∈ rows, RowS r) ∧ PurseAt h' q ∧ Kp q h h' ∧ h.length ≤ m ∧ ∀ x ∈ ix, h.length ≤ x := by
  have hq : q < h.length := by obtain ⟨_, _, _, e, _⟩ := p; exact (List.getElem?_eq_some_iff.mp e).1


  have e2 : k + 2 = (k + 1) + 1 := rfl
  rw [e2]
  generalize hz : D.int (n : Int) = z
  refine Ok.ex (rows_call ?_)
  subst hz
  show Ok (exSs (callF P 100 (k + 1)) 100 f_law_rows.body [some (.obj q), some (.int n), none, none, none] h) _
  unfold f_law_rows
  rw [xs_cons, ok_bind, show exS (callF P 100 (k + 1)) 100 (.asg (.nm 2) (.lst .nil)) [some (.obj q), some (.int n), none, none, none] h = .ok (.nx [some (.obj q), some (.int n), some (.obj h.length), none, none]) (h ++ [O.lst []]) by simp, ok_ok]
  simp only []
  rw [xs_cons, ok_bind, x_loop, ok_bind]
  have q0 := rangeD_from 0 n
  simp only [Int.natCast_zero] at q0
  rw [show evI (callF P 100 (k + 1)) (.rng (.cons (.var 1) .nil)) [some (.obj q), some (.int n), some (.obj h.length), none, none] (h ++ [O.lst []]) = .ok ((List.range' 0 n).map fun i => .int (i : Nat), []) (h ++ [O.lst []]) by simp [rng_1 (n := n) (by omega), q0], ok_ok]
  refine loop_ok _ (fun ys σ h' => ∃ (j c : Nat) (ix : List Nat) (rows : List (List Int)) (y3 y4 : Option D), j + c = n ∧ ys = (List.range' j c).map (fun i => D.int (i : Nat)) ∧ rows.length = j ∧ h'[h.length]? = some (.lst (ix.map .obj)) ∧ RowsAt h' ix rows ∧ (∀ r ∈ rows, RowS r) ∧ PurseAt h' q ∧ Kp q h h' ∧ (∀ x ∈ ix, h.length < x) ∧
    σ = [some (.obj q), some (.int n), some (.obj h.length), y3, y4]) _ _ ⟨0, n, [], [], none, none, by omega, rfl, rfl, by simp, ⟨rfl, by simp⟩, by simp, ?_, .pre (List.prefix_append _ _), by simp, rfl⟩ (fun _ _ _ _ => rfl) ?_ ?_
  · obtain ⟨d, s, t, e, r⟩ := p
    exact ⟨d, s, t, Pre.get (List.prefix_append _ _) e, r⟩
  · rintro x ys σ h' ⟨j, c, ix, rows, y3, y4, hj, e, hl, em, ra, rr, pq, kp, hx, rfl⟩
    cases c with
    | zero => cases e
    | succ c =>
      rw [List.range'_succ, List.map_cons] at e
      injection e with e1 e2
      subst e1
      simp only [as_nm, Ev.R.bind_ok, List.set_cons_succ, List.set_cons_zero]
      refine (turnR (k := k) (L := ix.map .obj) pq em (by omega) (by rw [List.length_map, ra.1]; omega)).imp ?_
      rintro fl h6 ⟨z, r, N, rfl, u1, u2, u3, u4, u5, u6, u7⟩
      have hlt := kp.le
      have hm : h.length < h'.length := (List.getElem?_eq_some_iff.mp em).1
      refine ⟨j + 1, c, ix ++ [N], rows ++ [r], _, _, by omega, e2, by simp [hl], by rw [u3]; simp, (ra.old fun n hn o eo => u7 n o (by have := hx n hn; omega) (by have := hx n hn; omega) eo).snoc u4, fun t ht => ?_, u2, ⟨by omega, fun j o n e => u7 j o n (by have := (List.getElem?_eq_some_iff.mp e).1; omega) (kp.at_ j o n e)⟩, fun t ht => ?_, rfl⟩
      · rcases List.mem_append.mp ht with ht | ht
        · exact rr t ht
        · rw [List.mem_singleton.mp ht]; exact u1
      · rcases List.mem_append.mp ht with ht | ht
        · exact hx t ht
        · rw [List.mem_singleton.mp ht]; omega
  · rintro σ h' ⟨j, c, ix, rows, y3, y4, hj, e, hl, em, ra, rr, pq, kp, hx, rfl⟩
    cases c with
    | succ c => rw [List.range'_succ, List.map_cons] at e; cases e
    | zero =>
      simp
      rw [fin_new (by simp [D.lt])]
      exact ⟨h.length, rfl, ix, em, rows, ra, by omega, rr, pq, kp, Nat.le_refl _, fun x hx' => Nat.le_of_lt (hx x hx')⟩
end K67

set_option Elab.async false
set_option linter.all false
set_option maxRecDepth 100000
set_option maxHeartbeats 4000000
namespace K67
open PySem Ev

theorem PurseAt.lt {h : Hh} {q : Nat} (p : PurseAt h q) : q < h.length := by
  obtain ⟨_, _, _, e, _⟩ := p
  exact (List.getElem?_eq_some_iff.mp e).1
theorem PurseAt.push {h h' : Hh} {q : Nat} (p : PurseAt h q) (l : h <+: h') : PurseAt h' q := by
  obtain ⟨d, s, t, e, r⟩ := p
  exact ⟨d, s, t, Pre.get l e, r⟩
/-- an expression that draws: an int for which B holds -/
def DrE (k q : Nat) (e : E) (σ : En) (B : Int → Prop) : Prop := ∀ h, PurseAt h q → Ok (evE (callF P 100 (k + 1)) e σ h) fun d h' => ∃ x : Int, d = .int x ∧ B x ∧ PurseAt h' q ∧ h'.length = h.length ∧ Kp q h h'
theorem dep_kp {q : Nat} {h h' : Hh} (k : Kp q h h') : ∀ {deps : Deps}, (∀ p ∈ deps, p.1 ≠ q) → depOk h deps = true → depOk h' deps = true
  | [], _, _ => rfl
  | (n, xs) :: r, hq, d => by
    simp only [depOk, Bool.and_eq_true, decide_eq_true_eq] at d ⊢
    exact ⟨k.at_ _ _ (hq _ List.mem_cons_self) d.1, dep_kp k (fun p hp => hq p (List.mem_cons_of_mem _ hp)) d.2⟩
theorem comp_draws {q : Nat} {deps : Deps} {f : D → Hh → R (Option D)} {h : Hh} {B : Int → Prop} (xs : List D) (p : PurseAt h q) (dk : depOk h deps = true) (dq : ∀ p ∈ deps, p.1 ≠ q)
    (hf : ∀ x ∈ xs, ∀ h', PurseAt h' q → Ok (f x h') fun o h2 => ∃ y : Int, o = some (.int y) ∧ B y ∧ PurseAt h2 q ∧ h2.length = h'.length ∧ Kp q h' h2) :
    Ok (compD deps f xs [] h) fun acc h' => ∃ ys : List Int, acc = ys.map .int ∧ ys.length = xs.length ∧ (∀ y ∈ ys, B y) ∧ PurseAt h' q ∧ h'.length = h.length ∧ Kp q h h' := by
  refine comp_ok xs (fun zs acc h' => ∃ ys : List Int, acc = ys.map .int ∧ ys.length + zs.length = xs.length ∧ (∀ y ∈ ys, B y) ∧ (∀ z ∈ zs, z ∈ xs) ∧ PurseAt h' q ∧ h'.length = h.length ∧ Kp q h h') [] h ⟨[], rfl, by simp, by simp, fun _ z => z, p, rfl, .refl⟩ ?_ ?_ ?_
  · rintro zs acc h' ⟨ys, _, _, _, _, _, _, k⟩
    exact dep_kp k dq dk
  · rintro x zs acc h' ⟨ys, rfl, hl, hb, hz, pq, hh, k⟩
    refine (hf x (hz x List.mem_cons_self) h' pq).imp ?_
    rintro o h2 ⟨y, rfl, by_, p2, l2, k2⟩
    refine ⟨ys ++ [y], by simp, by simp at hl ⊢; omega, fun t ht => ?_, fun z hz' => hz z (List.mem_cons_of_mem _ hz'), p2, by omega, k.trans k2⟩
    rcases List.mem_append.mp ht with ht | ht
    · exact hb t ht
    · rw [List.mem_singleton.mp ht]; exact by_
  · rintro acc h' ⟨ys, rfl, hl, hb, _, pq, hh, k⟩
    exact ⟨ys, rfl, by simpa using hl, hb, pq, hh, k⟩
/-- a list of some drawn numbers -/
theorem lead_ok {k q i : Nat} {σ : En} {elt : E} {m : Int} {B : Int → Prop} {h : Hh} (p : PurseAt h q) (h0 : σ[0]? = some (some (.obj q))) (hm : 1 ≤ m ∧ m < 1000) (he : ∀ z, DrE k q elt ((wipeE σ [i]).set i (some z)) B) :
    Ok (evE (callF P 100 (k + 1)) (.comp (.mk elt (.nm i) (.rng (.cons (.call 19 (.cons (.var 0) (.cons (.lit (.int m)) .nil))) .nil)) .no [i])) σ h) fun d h' => ∃ (N : Nat) (ys : List Int), d = .obj N ∧ h'[N]? = some (.lst (ys.map .int)) ∧ (ys.length : Int) < m ∧ (∀ y ∈ ys, B y) ∧ PurseAt h' q ∧ h.length ≤ N ∧ h.length ≤ h'.length ∧ Kp q h h' := by
  have hq := p.lt
  rw [e_comp, ok_bind, e_mk, ok_bind, i_rng, ok_bind, es_cons, ok_bind]
  refine e_draw (by simp [h0]) p hm fun j h1 a1 b1 p1 l1 k1 => ?_
  obtain ⟨n, rfl⟩ := Int.eq_ofNat_of_zero_le a1
  simp only [es_nil, Ev.R.bind_ok, ok_bind, ok_ok]
  rw [rng_1 (n := n) (by omega)]
  have hl : (rangeD 0 1 n).length = n := by simp [rangeD]
  simp only [ok_ok, hl, sz_val]
  rw [if_pos (by omega)]
  refine (comp_draws (B := B) (rangeD 0 1 n) p1 rfl (by simp) fun x _ h' p' => ?_).imp ?_
  · simp only [as_nm, Ev.R.bind_ok, t_no, if_true, ok_bind]
    refine (he x h' p').imp ?_
    rintro d h2 ⟨y, rfl, q1, q2, q3, q4⟩
    exact ⟨y, rfl, q1, q2, q3, q4⟩
  · rintro acc h2 ⟨ys, rfl, q1, q2, q3, q4, q5⟩
    rw [hl] at q1
    exact ⟨h2.length, ys, rfl, by simp, by omega, q2, q3.push (List.prefix_append _ _), by omega, by simp; omega, (k1.trans q5).trans (.pre (List.prefix_append _ _))⟩
/-- a list with draws on top of what stands in another -/
theorem more_ok {k q i j n : Nat} {σ : En} {m : Int} {xs : List Int} {B : Int → Prop} {h : Hh} (p : PurseAt h q) (h0 : σ[0]? = some (some (.obj q))) (hj : σ[j]? = some (some (.obj n))) (hn : h[n]? = some (.lst (xs.map .int))) (nq : n ≠ q) (h0i : i ≠ 0) (hi : i < σ.length) (hm : 1 ≤ m ∧ m < 1000) (hx : xs.length < 1000) (hB : ∀ x ∈ xs, ∀ y, 0 ≤ y → y < m → B (x + y)) :
    Ok (evE (callF P 100 (k + 1)) (.comp (.mk (.bin .add (.var i) (.call 19 (.cons (.var 0) (.cons (.lit (.int m)) .nil)))) (.nm i) (.seq (.var j)) .no [i])) σ h) fun d h' => ∃ (N : Nat) (ys : List Int), d = .obj N ∧ h'[N]? = some (.lst (ys.map .int)) ∧ ys.length = xs.length ∧ (∀ y ∈ ys, B y) ∧ PurseAt h' q ∧ h.length ≤ N ∧ h.length ≤ h'.length ∧ Kp q h h' := by
  have hq := p.lt
  rw [e_comp, ok_bind, e_mk, ok_bind, i_seq, ok_bind]
  simp only [e_var, getV_eq, hj, ok_ok]
  rw [seq_obj' hn]
  simp only [ok_ok, List.length_map, sz_val]
  rw [if_pos (by omega)]
  refine (comp_draws (B := B) (xs.map .int) p (dep1 hn) (by simpa using nq) fun x hx' h' p' => ?_).imp ?_
  · obtain ⟨v, hv, rfl⟩ := List.mem_map.mp hx'
    have hw : ((wipeE σ [i]).set i (some (D.int v)))[i]? = some (some (.int v)) := List.getElem?_set_self (by simpa [wipeE] using hi)
    have hw0 : ((wipeE σ [i]).set i (some (D.int v)))[0]? = some (some (.obj q)) := by
      rw [List.getElem?_set_ne h0i]
      simp only [wipeE]
      rw [List.getElem?_set_ne h0i]
      exact h0
    simp only [as_nm, Ev.R.bind_ok, t_no, if_true]
    rw [ok_bind, e_bin, ok_bind]
    simp only [e_var, getV_eq, hw, ok_ok]
    rw [ok_bind]
    refine e_draw (by simp [hw0]) p' hm fun y h2 a1 b1 p2 l2 k2 => ?_
    simp only [bin_add_int, ok_ok]
    exact ⟨v + y, rfl, hB v hv y a1 b1, p2, l2, k2⟩
  · rintro acc h2 ⟨ys, rfl, q1, q2, q3, q4, q5⟩
    rw [List.length_map] at q1
    exact ⟨h2.length, ys, rfl, by simp, q1, q2, q3.push (List.prefix_append _ _), by omega, by simp; omega, q5.trans (.pre (List.prefix_append _ _))⟩
end K67

set_option Elab.async false
set_option linter.all false
set_option maxRecDepth 100000
set_option maxHeartbeats 4000000
namespace K67
open PySem Ev

/-- a pair, apart from the purse -/
structure PairQ (q : Nat) (h : Hh) (m : Nat) (es : List Int) (rows : List (List Int)) : Prop where
  ex : ∃ (n1 n2 : Nat) (ix : List Nat), m ≠ q ∧ n1 ≠ q ∧ n2 ≠ q ∧ (∀ x ∈ ix, x ≠ q) ∧ h[m]? = some (.lst [.obj n1, .obj n2]) ∧ h[n1]? = some (.lst (es.map .int)) ∧ h[n2]? = some (.lst (ix.map .obj)) ∧ RowsAt h ix rows
theorem PairQ.pair {q : Nat} {h : Hh} {m : Nat} {es : List Int} {rows : List (List Int)} (p : PairQ q h m es rows) : PairAt h m es rows := by
  obtain ⟨n1, n2, ix, _, _, _, _, a, b, c, d⟩ := p.ex
  exact ⟨n1, n2, ix, a, b, c, d.1, d.2⟩
theorem PairQ.kp {q : Nat} {h h' : Hh} {m : Nat} {es : List Int} {rows : List (List Int)} (p : PairQ q h m es rows) (k : Kp q h h') : PairQ q h' m es rows := by
  obtain ⟨n1, n2, ix, a1, a2, a3, a4, a, b, c, d⟩ := p.ex
  exact ⟨n1, n2, ix, a1, a2, a3, a4, k.at_ _ _ a1 a, k.at_ _ _ a2 b, k.at_ _ _ a3 c, d.old fun n hn o e => k.at_ _ _ (a4 n hn) e⟩
theorem RowsAt.append {h : Hh} {ix ix' : List Nat} {rows rows' : List (List Int)} (a : RowsAt h ix rows) (b : RowsAt h ix' rows') : RowsAt h (ix ++ ix') (rows ++ rows') := by
  refine ⟨by simp [a.1, b.1], fun i n r e1 e2 => ?_⟩
  by_cases c : i < ix.length
  · rw [List.getElem?_append_left c] at e1
    rw [List.getElem?_append_left (by rw [← a.1]; exact c)] at e2
    exact a.2 i n r e1 e2
  · rw [List.getElem?_append_right (by omega)] at e1
    rw [List.getElem?_append_right (by rw [← a.1]; omega), ← a.1] at e2
    exact b.2 _ n r e1 e2
/-- a row with draws on top -/
def RowM (r : List Int) : Prop := r.length = 4 ∧ ∀ x ∈ r, -60 ≤ x ∧ x ≤ 60
def innerE : E := .comp (.mk (.bin .add (.var 8) (.call 19 (.cons (.var 0) (.cons (.lit (.int (3))) .nil)))) (.nm 8) (.seq (.var 7)) .no [8])
theorem copy_ok {k q n : Nat} {ix : List Nat} {rows : List (List Int)} {x2 x3 x4 x5 x6 x7 x8 x9 : Option D} {h : Hh} (p : PurseAt h q) (hn : h[n]? = some (.lst (ix.map .obj))) (nq : n ≠ q) (hix : ∀ x ∈ ix, x ≠ q) (ra : RowsAt h ix rows) (rs : ∀ r ∈ rows, RowS r) (hl : rows.length ≤ 6) :
    Ok (evE (callF P 100 (k + 1)) (.comp (.mk innerE (.nm 7) (.seq (.var 1)) .no [7])) [some (.obj q), some (.obj n), x2, x3, x4, x5, x6, x7, x8, x9] h) fun d h' => ∃ (M : Nat) (ix' : List Nat) (rows' : List (List Int)), d = .obj M ∧ h'[M]? = some (.lst (ix'.map .obj)) ∧ RowsAt h' ix' rows' ∧ rows'.length = rows.length ∧ (∀ r ∈ rows', RowM r) ∧ PurseAt h' q ∧ Kp q h h' ∧ h.length ≤ M ∧ (∀ x ∈ ix', h.length ≤ x) ∧ (∀ x ∈ ix', x < M) ∧ ix'.Nodup := by
  have hq := p.lt
  rw [e_comp, ok_bind, e_mk, ok_bind, i_seq, ok_bind]
  simp only [e_var, getV_eq, List.getElem?_cons_succ, List.getElem?_cons_zero, ok_ok]
  rw [seq_obj' hn]
  simp only [ok_ok, List.length_map, sz_val]
  rw [if_pos (by rw [ra.1]; omega)]
  refine comp_ok _ (fun ys acc h' => ∃ (j : Nat) (ix' : List Nat) (rows' : List (List Int)), j ≤ ix.length ∧ ys = (ix.drop j).map D.obj ∧ acc = ix'.map D.obj ∧ rows'.length = j ∧ RowsAt h' ix' rows' ∧ (∀ r ∈ rows', RowM r) ∧ PurseAt h' q ∧ Kp q h h' ∧ (∀ x ∈ ix', h.length ≤ x) ∧ (∀ x ∈ ix', x < h'.length) ∧ ix'.Nodup) [] h
    ⟨0, [], [], by omega, by simp, rfl, rfl, ⟨rfl, by simp⟩, by simp, p, .refl, by simp, by simp, by simp⟩ ?_ ?_ ?_
  · rintro ys acc h' ⟨j, ix', rows', _, _, _, _, _, _, _, kp, _⟩
    exact dep_kp kp (by simpa using nq) (dep1 hn)
  · rintro x ys acc h' ⟨j, ix', rows', hj, e, rfl, hr, ra', rm, pq, kp, hge, hlt, nd⟩
    have hjl : j < ix.length := by
      rcases Nat.lt_or_ge j ix.length with c | c
      · exact c
      · rw [List.drop_eq_nil_of_le c] at e; cases e
    rw [List.drop_eq_getElem_cons hjl, List.map_cons] at e
    injection e with e1 e2
    subst e1
    have hjr : j < rows.length := by rw [← ra.1]; exact hjl
    have row := ra.2 j ix[j] rows[j] (List.getElem?_eq_getElem hjl) (List.getElem?_eq_getElem hjr)
    have rowS := rs _ (List.getElem_mem hjr)
    have row' : RowAt h' ix[j] rows[j] := kp.at_ _ _ (hix _ (List.getElem_mem hjl)) row
    simp only [as_nm, wipeE, Ev.R.bind_ok, List.set_cons_succ, List.set_cons_zero, t_no, if_true]
    rw [ok_bind]
    unfold innerE
    refine (more_ok (B := fun y => -60 ≤ y ∧ y ≤ 60) (xs := rows[j]) (n := ix[j]) pq rfl rfl row' (hix _ (List.getElem_mem hjl)) (by decide) (by simp) (by decide) (by rw [rowS.1]; decide) (fun x hx y y0 y1 => by have := rowS.2 x hx; omega)).imp ?_
    rintro d h2 ⟨N, ys', rfl, q1, q2, q3, q4, q5, q6, q7⟩
    rw [ok_ok]
    have kl := kp.le
    refine ⟨j + 1, ix' ++ [N], rows' ++ [ys'], hjl, e2, by simp, by simp [hr], (ra'.old fun m hm o eo => q7.at_ _ _ (by have := hge m hm; omega) eo).snoc q1, fun r hr' => ?_, q4, kp.trans q7, fun t ht => ?_, fun t ht => ?_, ?_⟩
    · rcases List.mem_append.mp hr' with ht | ht
      · exact rm r ht
      · rw [List.mem_singleton.mp ht]; exact ⟨by rw [q2, rowS.1], q3⟩
    · rcases List.mem_append.mp ht with ht | ht
      · exact hge t ht
      · rw [List.mem_singleton.mp ht]; omega
    · rcases List.mem_append.mp ht with ht | ht
      · have := hlt t ht; omega
      · rw [List.mem_singleton.mp ht]; exact (List.getElem?_eq_some_iff.mp q1).1
    · rw [List.nodup_append]
      refine ⟨nd, by simp, fun a ha b hb => ?_⟩
      rw [List.mem_singleton.mp hb]
      have := hlt a ha
      omega
  · rintro acc h' ⟨j, ix', rows', hj, e, rfl, hr, ra', rm, pq, kp, hge, hlt, nd⟩
    have ej : j = ix.length := by
      rcases Nat.lt_or_ge j ix.length with c | c
      · rw [List.drop_eq_getElem_cons c] at e; cases e
      · omega
    have kl := kp.le
    refine ⟨h'.length, ix', rows', rfl, by simp, ra'.old fun n _ o eo => Pre.get (List.prefix_append _ _) eo, by rw [hr, ej, ra.1], rm, pq.push (List.prefix_append _ _), kp.trans (.pre (List.prefix_append _ _)), kl, hge, hlt, nd⟩
end K67

set_option Elab.async false
set_option linter.all false
set_option maxRecDepth 100000
set_option maxHeartbeats 4000000
namespace K67
open PySem Ev

theorem Kp.set {q : Nat} {h h' : Hh} {n : Nat} {o : O} (k : Kp q h h') (hn : h.length ≤ n) : Kp q h (h'.set n o) :=
  ⟨by simpa using k.le, fun j u hj e => by rw [List.getElem?_set_ne (by have := (List.getElem?_eq_some_iff.mp e).1; omega)]; exact k.at_ j u hj e⟩
theorem PurseAt.set {h : Hh} {q n : Nat} {o : O} (p : PurseAt h q) (hn : n ≠ q) : PurseAt (h.set n o) q := by
  obtain ⟨d, s, t, e, r⟩ := p
  exact ⟨d, s, t, by rw [List.getElem?_set_ne hn]; exact e, r⟩
def S1 : S := .asg (.nm 4) (.comp (.mk innerE (.nm 7) (.seq (.var 1)) .no [7]))
def S2 : S := .asg (.nm 5) (.lst (.cons (.comp (.mk (.bin .add (.var 9) (.call 19 (.cons (.var 0) (.cons (.lit (.int (3))) .nil)))) (.nm 9) (.seq (.var 2)) .no [9])) (.cons (.var 4) .nil)))
def S3 : S := .asg (.sub (.idx (.idx (.var 5) (.lit (.int (1)))) (.lit (.int (0)))) (.lit (.int (1)))) (.bin .sub (.idx (.idx (.idx (.var 5) (.lit (.int (1)))) (.lit (.int (0)))) (.lit (.int (1)))) (.call 19 (.cons (.var 0) (.cons (.lit (.int (6))) .nil))))
/-- a first row lowered -/
theorem low_ok {k q A L M : Nat} {ix : List Nat} {rows : List (List Int)} {es : List Int} {x1 x2 x3 x4 x6 x7 x8 x9 : Option D} {h : Hh} (p : PurseAt h q) (hA : h[A]? = some (.lst [.obj L, .obj M])) (hL : h[L]? = some (.lst (es.map .int))) (hM : h[M]? = some (.lst (ix.map .obj))) (ra : RowsAt h ix rows) (rm : ∀ r ∈ rows, RowM r) (pos : 0 < rows.length) (few : rows.length ≤ 6) (nd : ix.Nodup) (lead : es.length ≤ 3) (sm : ∀ x ∈ es, -100 ≤ x ∧ x ≤ 100)
    (n1 : A ≠ q) (n2 : L ≠ q) (n3 : M ≠ q) (hix : ∀ x ∈ ix, x ≠ q ∧ x ≠ A ∧ x ≠ L ∧ x ≠ M) :
    Ok (exS (callF P 100 (k + 1)) 100 S3 [some (.obj q), x1, x2, x3, x4, some (.obj A), x6, x7, x8, x9] h) fun fl h' => fl = .nx [some (.obj q), x1, x2, x3, x4, some (.obj A), x6, x7, x8, x9] ∧ PurseAt h' q ∧ (∃ rows', PairQ q h' A es rows' ∧ Rows es rows') ∧ ∃ i0 ∈ ix, ∀ h0, Kp q h0 h → h0.length ≤ i0 → Kp q h0 h' := by
  cases ix with
  | nil => have := ra.1; simp at this; omega
  | cons i0 it =>
    cases rows with
    | nil => simp at pos
    | cons r0 rt =>
      have row0 := ra.2 0 i0 r0 rfl rfl
      have rm0 := rm r0 (by simp)
      obtain ⟨rl, rb⟩ := rm0
      match r0, rl, row0, rb with
      | [a, b, c, e], _, row0, rb =>
        have row0 : h[i0]? = some (.lst [.int a, .int b, .int c, .int e]) := row0
        obtain ⟨q1, q2, q3, q4⟩ := hix i0 (by simp)
        unfold S3
        rw [x_asg, ok_bind, e_bin, ok_bind]
        simp only [e_idx, e_var, getV_eq, List.getElem?_cons_succ, List.getElem?_cons_zero, Ev.R.bind_ok, e_lit, ix_int, items_obj hA, Option.bind_some, atI_1, atI_0, items_obj hM, List.map_cons, items_obj row0, ok_ok]
        rw [ok_bind]
        refine e_draw (m := 6) (by simp) p (by decide) fun d h2 d0 d1 p2 l2 k2 => ?_
        have hA2 := k2.at_ _ _ n1 hA
        have hM2 := k2.at_ _ _ n3 hM
        have hL2 := k2.at_ _ _ n2 hL
        have row2 := k2.at_ _ _ q1 row0
        have st : setop h2 (.obj i0) (.int 1) (.int (b - d)) = .ok () (h2.set i0 (.lst [.int a, .int (b - d), .int c, .int e])) := by
          simp only [setop, row2]
          rfl
        simp only [bin_sub_int, ok_ok, as_sub, e_idx, e_var, getV_eq, List.getElem?_cons_succ, List.getElem?_cons_zero, Ev.R.bind_ok, e_lit, ix_int, items_obj hA2, Option.bind_some, atI_1, atI_0, items_obj hM2, List.map_cons, st]
        have hl0 : i0 < h2.length := (List.getElem?_eq_some_iff.mp row2).1
        refine ⟨trivial, p2.set q1, ⟨[a, b - d, c, e] :: rt, ⟨L, M, i0 :: it, n1, n2, n3, fun x hx => (hix x hx).1, ?_, ?_, ?_, ?_⟩, ⟨fun r hr => ?_, by simp, by simpa using few, lead, sm⟩⟩, i0, by simp, fun h0 kk hh => (kk.trans k2).set hh⟩
        · rw [List.getElem?_set_ne q2]; exact hA2
        · rw [List.getElem?_set_ne q3]; exact hL2
        · rw [List.getElem?_set_ne q4]; exact hM2
        · refine ⟨by simpa using ra.1, fun i n r e1 e2 => ?_⟩
          cases i with
          | zero =>
            cases e1
            cases e2
            show _ = _
            rw [List.getElem?_set_self hl0]
            rfl
          | succ i =>
            have m1 : n ∈ it := List.mem_of_getElem? (by simpa using e1)
            have ne : i0 ≠ n := fun z => by
              have := (List.nodup_cons.mp nd).1
              exact this (z ▸ m1)
            have := ra.2 (i + 1) n r e1 e2
            show _ = _
            rw [List.getElem?_set_ne ne]
            exact k2.at_ _ _ (hix n (by simp [m1])).1 this
        · rcases List.mem_cons.mp hr with rfl | hr
          · refine ⟨rfl, fun x hx => ?_⟩
            simp only [List.mem_cons, List.not_mem_nil, or_false] at hx rb
            have ha := rb a (by simp)
            have hb := rb b (by simp)
            have hc := rb c (by simp)
            have he := rb e (by simp)
            rcases hx with rfl | rfl | rfl | rfl <;> omega
          · have := rm r (by simp [hr])
            exact ⟨this.1, fun x hx => by have := this.2 x hx; omega⟩
/-- the second a copy of the first, with more -/
theorem b1_ok {k q n L : Nat} {ix : List Nat} {rows : List (List Int)} {es : List Int} {h : Hh} (p : PurseAt h q) (hn : h[n]? = some (.lst (ix.map .obj))) (nq : n ≠ q) (hix : ∀ x ∈ ix, x ≠ q) (ra : RowsAt h ix rows) (rs : ∀ r ∈ rows, RowS r) (pos : 0 < rows.length) (few : rows.length ≤ 6) (hL : h[L]? = some (.lst (es.map .int))) (Lq : L ≠ q) (lead : es.length ≤ 3) (sm : ∀ x ∈ es, -50 ≤ x ∧ x ≤ 50) :
    Ok (exSs (callF P 100 (k + 1)) 100 (.cons S1 (.cons S2 (.cons S3 .nil))) [some (.obj q), some (.obj n), some (.obj L), none, none, none, none, none, none, none] h) fun fl h' => ∃ (A : Nat) (es' : List Int) (rows' : List (List Int)) (z4 : Option D), fl = .nx [some (.obj q), some (.obj n), some (.obj L), none, z4, some (.obj A), none, none, none, none] ∧ PairQ q h' A es' rows' ∧ Rows es' rows' ∧ PurseAt h' q ∧ Kp q h h' ∧ h.length ≤ A := by
  have hq := p.lt
  rw [xs_cons, ok_bind]
  unfold S1
  rw [x_asg, ok_bind]
  refine (copy_ok (k := k) p hn nq hix ra rs few).imp ?_
  rintro d h1 ⟨M, ix', rows', rfl, q1, q2, q3, q4, q5, q6, q7, q8, q9, q10⟩
  simp only [as_nm, Ev.R.bind_ok, ok_ok, List.set_cons_succ, List.set_cons_zero]
  rw [xs_cons, ok_bind]
  unfold S2
  rw [x_asg, ok_bind, e_lst, ok_bind, es_cons, ok_bind]
  have l1 := q6.le
  refine (more_ok (B := fun y => -100 ≤ y ∧ y ≤ 100) (xs := es) (n := L) q5 rfl rfl (q6.at_ _ _ Lq hL) Lq (by decide) (by simp) (by decide) (by omega) (fun x hx y y0 y1 => by have := sm x hx; omega)).imp ?_
  rintro d h2 ⟨N, ys, rfl, u1, u2, u3, u4, u5, u6, u7⟩
  have l2 := u7.le
  simp only [es_cons, e_var, getV_eq, List.getElem?_cons_succ, List.getElem?_cons_zero, Ev.R.bind_ok, es_nil, ok_bind, ok_ok, List.length_cons, List.length_nil, sz_val]
  rw [if_pos (by decide)]
  simp only [as_nm, Ev.R.bind_ok, ok_ok, List.set_cons_succ, List.set_cons_zero]
  rw [xs_cons, ok_bind]
  have pre : h2 <+: h2 ++ [O.lst [.obj N, .obj M]] := List.prefix_append _ _
  have hNl := (List.getElem?_eq_some_iff.mp u1).1
  have hM2 := u7.at_ M _ (by omega) q1
  have hMl := (List.getElem?_eq_some_iff.mp hM2).1
  have hM1 := (List.getElem?_eq_some_iff.mp q1).1
  refine (low_ok (k := k) (A := h2.length) (L := N) (M := M) (ix := ix') (rows := rows') (es := ys) (u4.push pre) (by simp) (Pre.get pre u1) (Pre.get pre hM2) (q2.old fun m hm o eo => Pre.get pre (u7.at_ _ _ (by have := q8 m hm; omega) eo)) q4 (by omega) (by omega) q10 (by omega) u3 (by omega) (by omega) (by omega) (fun x hx => by
    have a1 := q8 x hx
    have a2 := q9 x hx
    refine ⟨by omega, by omega, by omega, by omega⟩)).imp ?_
  rintro fl h3 ⟨rfl, v1, ⟨rows3, v2, v3⟩, i0, hi0, v4⟩
  simp only [xs_nil, ok_ok]
  exact ⟨h2.length, ys, rows3, _, rfl, v2, v3, v1, v4 h (q6.trans (u7.trans (.pre pre))) (q8 i0 hi0), by omega⟩
end K67

set_option Elab.async false
set_option linter.all false
set_option maxRecDepth 100000
set_option maxHeartbeats 4000000
namespace K67
open PySem Ev

def rowsE : E := .call 31 (.cons (.var 0) (.cons (.bin .add (.lit (.int (1))) (.call 19 (.cons (.var 0) (.cons (.lit (.int (3))) .nil)))) .nil))
theorem rows_e {k q : Nat} {σ : En} {h : Hh} (p : PurseAt h q) (h0 : σ[0]? = some (some (.obj q))) : Ok (evE (callF P 100 (k + 2)) rowsE σ h) fun d h' => ∃ (m : Nat) (ix : List Nat) (rows : List (List Int)), d = .obj m ∧ h'[m]? = some (.lst (ix.map .obj)) ∧ RowsAt h' ix rows ∧ 0 < rows.length ∧ rows.length ≤ 3 ∧ (∀ r ∈ rows, RowS r) ∧ PurseAt h' q ∧ Kp q h h' ∧ h.length ≤ m ∧ ∀ x ∈ ix, h.length ≤ x := by
  unfold rowsE
  rw [e_call, ok_bind, es_cons, ok_bind]
  simp only [e_var, getV_eq, h0, ok_ok]
  rw [ok_bind, es_cons, ok_bind, e_bin, ok_bind, e_lit, ok_ok, ok_bind]
  refine e_draw (k := k + 1) (m := 3) (by simp [h0]) p (by decide) fun i h1 a1 b1 p1 l1 k1 => ?_
  obtain ⟨n, rfl⟩ := Int.eq_ofNat_of_zero_le a1
  simp only [bin_add_int, ok_ok, es_nil, Ev.R.bind_ok]
  have sr := s_rows (k := k) (n := 1 + n) p1 (by omega)
  rw [Int.natCast_add] at sr
  rw [show ((1 : Nat) : Int) = 1 from rfl] at sr
  generalize callF P 100 (k + 2) 31 [D.obj q, D.int (1 + (n : Int))] h1 = r at sr ⊢
  obtain ⟨d, h2, e, m, ix, rows, rfl, q1, q2, q3, q4, q5, q6, q7, q8⟩ := sr
  rw [e, ok_ok]
  exact ⟨m, ix, rows, rfl, q1, q2, by omega, by omega, q4, q5, k1.trans q6, by omega, fun x hx => by have := q8 x hx; omega⟩
def leadE (m : Int) (j : Nat) (e : E) : E := .comp (.mk e (.nm j) (.rng (.cons (.call 19 (.cons (.var 0) (.cons (.lit (.int m)) .nil))) .nil)) .no [j])
theorem b2_ok {k q : Nat} {x1 x2 x3 x4 x5 x6 x7 x8 x9 : Option D} {h : Hh} (p : PurseAt h q) :
    Ok (exSs (callF P 100 (k + 2)) 100 (.cons (.asg (.nm 5) (.lst (.cons (leadE 4 6 (.call 19 (.cons (.var 0) (.cons (.lit (.int (30))) .nil)))) .nil))) (.cons (.app (.var 5) rowsE) .nil)) [some (.obj q), x1, x2, x3, x4, x5, x6, x7, x8, x9] h) fun fl h' => ∃ (A : Nat) (es' : List Int) (rows' : List (List Int)), fl = .nx [some (.obj q), x1, x2, x3, x4, some (.obj A), x6, x7, x8, x9] ∧ PairQ q h' A es' rows' ∧ Rows es' rows' ∧ PurseAt h' q ∧ Kp q h h' ∧ h.length ≤ A := by
  have hq := p.lt
  rw [xs_cons, ok_bind, x_asg, ok_bind, e_lst, ok_bind, es_cons, ok_bind]
  unfold leadE
  refine (lead_ok (k := k + 1) (B := fun y => 0 ≤ y ∧ y < 30) p rfl (by decide) (fun z h' p' => e_draw (k := k + 1) (m := 30) (by simp [wipeE]) p' (by decide) fun i h2 a b c d e => ⟨i, rfl, ⟨a, b⟩, c, d, e⟩)).imp ?_
  rintro d h1 ⟨N, ys, rfl, u1, u2, u3, u4, u5, u6, u7⟩
  have hN1 := (List.getElem?_eq_some_iff.mp u1).1
  simp only [es_nil, Ev.R.bind_ok, ok_bind, ok_ok, List.length_cons, List.length_nil, sz_val]
  rw [if_pos (by decide)]
  simp only [as_nm, Ev.R.bind_ok, ok_ok, List.set_cons_succ, List.set_cons_zero]
  rw [xs_cons, ok_bind, x_app, ok_bind]
  simp only [e_var, getV_eq, List.getElem?_cons_succ, List.getElem?_cons_zero, ok_ok]
  rw [ok_bind]
  have pre : h1 <+: h1 ++ [O.lst [.obj N]] := List.prefix_append _ _
  refine (rows_e (k := k) (u4.push pre) rfl).imp ?_
  rintro d h2 ⟨M, ix, rows, rfl, q1, q2, q3, q4, q5, q6, q7, q8, q9⟩
  have eA : h2[h1.length]? = some (.lst [.obj N]) := q7.at_ _ _ (by omega) (by simp)
  have l2 := q7.le
  simp at l2 q8 q9
  have ap : appop (.obj h1.length) (.obj M) h2 = .ok () (h2.set h1.length (.lst [.obj N, .obj M])) := by
    simp only [appop, eA, sz_val]
    rw [if_pos (by simp)]
    rfl
  simp only [ap, Ev.R.bind_ok, ok_bind, ok_ok, xs_nil]
  have hA1 := (List.getElem?_eq_some_iff.mp eA).1
  have kk : Kp q h h2 := (u7.trans (.pre pre)).trans q7
  refine ⟨h1.length, ys, rows, rfl, ⟨N, M, ix, by omega, by omega, by omega, fun x hx => by have := q9 x hx; omega, ?_, ?_, ?_, ?_⟩, ⟨fun r hr => (q5 r hr).row, q3, by omega, by omega, fun x hx => by have := u3 x hx; omega⟩, q6.set (by omega), kk.set (by omega), u6⟩
  · rw [List.getElem?_set_self hA1]
  · rw [List.getElem?_set_ne (by omega)]
    exact q7.at_ _ _ (by omega) (Pre.get pre u1)
  · rw [List.getElem?_set_ne (by omega)]
    exact q1
  · refine q2.old fun n hn o eo => ?_
    rw [List.getElem?_set_ne (by have := q9 n hn; omega)]
    exact eo
theorem rep_rows {h : Hh} {ix : List Nat} {rows : List (List Int)} (a : RowsAt h ix rows) : ∀ n : Nat, RowsAt h (List.replicate n ix).flatten (List.replicate n rows).flatten
  | 0 => ⟨rfl, by simp⟩
  | n + 1 => by
    rw [List.replicate_succ, List.replicate_succ, List.flatten_cons, List.flatten_cons]
    exact a.append (rep_rows a n)
theorem flat_map (n : Nat) (ix : List Nat) : (List.replicate n (ix.map D.obj)).flatten = ((List.replicate n ix).flatten).map D.obj := by
  rw [List.map_flatten, List.map_replicate]
theorem pair_ent {a : D} : ent f_law_pair [a] = [some a, none, none, none, none, none, none, none, none, none] := rfl
/-- what is drawn: two of early numbers and sums -/
structure Pairs (q : Nat) (h : Hh) (m m' : Nat) (es : List Int) (rows : List (List Int)) (es' : List Int) (rows' : List (List Int)) : Prop where
  one : PairQ q h m es rows
  two : PairQ q h m' es' rows'
  r1 : Rows es rows
  r2 : Rows es' rows'
theorem s_pair {k : Nat} {h : Hh} {q : Nat} (p : PurseAt h q) : Ok (callF P 100 (k + 3) 32 [.obj q] h) fun d h' => ∃ (z m m' : Nat) (es : List Int) (rows : List (List Int)) (es' : List Int) (rows' : List (List Int)), d = .obj z ∧ h'[z]? = some (.lst [.obj m, .obj m']) ∧ Pairs q h' m m' es rows es' rows' ∧ PurseAt h' q ∧ Kp q h h' := by
  have hq := p.lt
  refine call_ok (fd := f_law_pair) rfl rfl ?_
  rw [pair_ent]
  unfold f_law_pair
  simp only []
  rw [xs_cons, ok_bind, x_asg, ok_bind]
  refine (rows_e (k := k) p rfl).imp ?_
  rintro d h1 ⟨n, ix, rows, rfl, q1, q2, q3, q4, q5, q6, q7, q8, q9⟩
  have l1 := q7.le
  simp only [as_nm, Ev.R.bind_ok, ok_ok, List.set_cons_succ, List.set_cons_zero]
  rw [xs_cons, ok_bind, x_asg, ok_bind]
  refine (lead_ok (k := k + 1) (B := fun y => -50 ≤ y ∧ y ≤ 50) q6 rfl (by decide) (fun z h' p' => ?_)).imp ?_
  · show Ok (evE (callF P 100 (k + 2)) (.bin .sub (.call 19 (.cons (.var 0) (.cons (.lit (.int (30))) .nil))) (.lit (.int (5)))) _ h') _
    rw [e_bin, ok_bind]
    refine e_draw (k := k + 1) (m := 30) (by simp [wipeE]) p' (by decide) fun i h2 a b c d e => ?_
    simp only [e_lit, Ev.R.bind_ok, bin_sub_int, ok_ok]
    exact ⟨i - 5, rfl, by omega, c, d, e⟩
  rintro d h2 ⟨L, es, rfl, u1, u2, u3, u4, u5, u6, u7⟩
  have l2 := u7.le
  simp only [as_nm, Ev.R.bind_ok, ok_ok, List.set_cons_succ, List.set_cons_zero]
  have hn2 := u7.at_ _ _ (by omega) q1
  have ra2 : RowsAt h2 ix rows := q2.old fun m hm o eo => u7.at_ _ _ (by have := q9 m hm; omega) eo
  rw [xs_cons, ok_bind, x_ite, ok_bind, e_cmp, ok_bind]
  refine e_draw (k := k + 1) (m := 3) (by simp) u4 (by decide) fun i h3 a b p3 l3 k3 => ?_
  have hn3 := k3.at_ _ _ (by omega) hn2
  have hL3 := k3.at_ _ _ (by omega) u1
  have ra3 : RowsAt h3 ix rows := ra2.old fun m hm o eo => k3.at_ _ _ (by have := q9 m hm; omega) eo
  have k03 : Kp q h h3 := (q7.trans u7).trans k3
  -- what comes behind the branch
  have tail : ∀ (σ4 : En) (h4 : Hh) (A : Nat) (es' : List Int) (rows' : List (List Int)) (z4 : Option D), σ4 = [some (.obj q), some (.obj n), some (.obj L), none, z4, some (.obj A), none, none, none, none] → PairQ q h4 A es' rows' → Rows es' rows' → PurseAt h4 q → Kp q h3 h4 → h3.length ≤ A →
      Ok (exSs (callF P 100 (k + 2)) 100 (.cons (.asg (.nm 3) (.bin .add (.lit (.int (1))) (.call 19 (.cons (.var 0) (.cons (.lit (.int (2))) .nil)))))
      (.cons (.ret (.lst (.cons (.lst (.cons (.var 2) (.cons (.bin .mul (.var 1) (.var 3)) .nil))) (.cons (.var 5) .nil))))
      .nil)) σ4 h4) fun fl h' => ∃ d, fl.val = some d ∧ Ok (fin h d h') fun d h' => ∃ (z m m' : Nat) (es : List Int) (rows : List (List Int)) (es' : List Int) (rows' : List (List Int)), d = .obj z ∧ h'[z]? = some (.lst [.obj m, .obj m']) ∧ Pairs q h' m m' es rows es' rows' ∧ PurseAt h' q ∧ Kp q h h' := by
    rintro σ4 h4 A es' rows' z4 rfl PA RA p4 k4 gA
    have l4 := k4.le
    rw [xs_cons, ok_bind, x_asg, ok_bind, e_bin, ok_bind, e_lit, ok_ok, ok_bind]
    refine e_draw (k := k + 1) (m := 2) (by simp) p4 (by decide) fun t h5 t0 t1 p5 l5 k5 => ?_
    obtain ⟨w, rfl⟩ := Int.eq_ofNat_of_zero_le t0
    have PA5 := PA.kp k5
    have k35 := k4.trans k5
    have hn5 := k35.at_ _ _ (by omega) hn3
    have hL5 := k35.at_ _ _ (by omega) hL3
    have ra5 : RowsAt h5 ix rows := ra3.old fun m hm o eo => k35.at_ _ _ (by have := q9 m hm; omega) eo
    have e1 : (1 : Int) + (w : Int) = ((1 + w : Nat) : Int) := by omega
    have ml : binop .mul (.obj n) (.int ((1 + w : Nat) : Int)) h5 = .ok (.obj h5.length) (h5 ++ [.lst (((List.replicate (1 + w) ix).flatten).map .obj)]) := by
      simp only [binop, hn5, Int.toNat_natCast, List.length_map, sz_val, flat_map]
      rw [if_pos ⟨by omega, by omega, by
        have : ix.length ≤ 3 := by rw [ra5.1]; exact q4
        have h2 : ix.length * (1 + w) ≤ 3 * 2 := Nat.mul_le_mul this (by omega)
        omega⟩]
    simp only [bin_add_int, e1, ok_ok, as_nm, Ev.R.bind_ok, List.set_cons_succ, List.set_cons_zero, xs_cons, x_ret, e_lst, es_cons, e_var, getV_eq, List.getElem?_cons_succ, List.getElem?_cons_zero, es_nil, e_bin, ml, List.length_cons, List.length_nil, sz_val]
    rw [if_pos (by decide)]
    simp only [Ev.R.bind_ok, List.length_cons, List.length_nil]
    rw [if_pos (by decide)]
    simp only [Ev.R.bind_ok, ok_ok, Fl.val_rt]
    have pz : h5 <+: h5 ++ [O.lst (((List.replicate (1 + w) ix).flatten).map .obj)] ++ [O.lst [.obj L, .obj h5.length]] ++ [O.lst [.obj (h5 ++ [O.lst (((List.replicate (1 + w) ix).flatten).map .obj)]).length, .obj A]] := by
      rw [List.append_assoc, List.append_assoc]; exact List.prefix_append _ _
    refine ⟨_, rfl, ?_⟩
    rw [fin_new (by simp [D.lt]; omega), ok_ok]
    have kz : Kp q h5 _ := .pre pz
    refine ⟨_, (h5 ++ [O.lst (((List.replicate (1 + w) ix).flatten).map .obj)]).length, A, es, (List.replicate (1 + w) rows).flatten, es', rows', rfl, by simp, ⟨⟨L, h5.length, (List.replicate (1 + w) ix).flatten, ?_, by omega, by omega, fun x hx => ?_, ?_, Pre.get pz hL5, ?_, ?_⟩, PA5.kp kz, ?_, RA⟩, p5.push pz, (k03.trans k35).trans kz⟩
    · simp; omega
    · obtain ⟨l, hl, hx⟩ := List.mem_flatten.mp hx
      rw [List.eq_of_mem_replicate hl] at hx
      have := q9 x hx
      omega
    · simp
    · simp
    · exact (rep_rows ra5 _).old fun n _ o eo => Pre.get pz eo
    · refine ⟨fun r hr => ?_, ?_, ?_, by omega, fun x hx => by have := u3 x hx; omega⟩
      · obtain ⟨l, hl, hx⟩ := List.mem_flatten.mp hr
        rw [List.eq_of_mem_replicate hl] at hx
        exact (q5 r hx).row
      · have e : ((List.replicate (1 + w) rows).flatten).length = (1 + w) * rows.length := by simp
        rw [e]
        exact Nat.mul_pos (by omega) q3
      · have h2 : (1 + w) * rows.length ≤ 2 * 3 := Nat.mul_le_mul (by omega) q4
        simp; omega
  simp only [e_lit, Ev.R.bind_ok, cmp_gt_int, b01_some, ok_ok]
  by_cases c : 0 < i
  · simp only [c, decide_true]
    refine (b1_ok (k := k + 1) (L := L) (es := es) p3 hn3 (by omega) (fun x hx => by have := q9 x hx; omega) ra3 q5 q3 (by omega) hL3 (by omega) (by omega) u3).imp ?_
    rintro fl h4 ⟨A, es', rows', z4, rfl, v1, v2, v3, v4, v5⟩
    exact tail _ h4 A es' rows' z4 rfl v1 v2 v3 v4 v5
  · simp only [c, decide_false]
    refine (b2_ok (k := k) p3).imp ?_
    rintro fl h4 ⟨A, es', rows', rfl, v1, v2, v3, v4, v5⟩
    exact tail _ h4 A es' rows' none rfl v1 v2 v3 v4 v5
end K67

set_option Elab.async false
set_option linter.all false
set_option maxRecDepth 100000
set_option maxHeartbeats 4000000
namespace K67
open PySem Ev

/-! ### how long a text of nested values is at most -/
structure Sh (d n : Nat) (p : PyData) : Prop where
  sh : p.showable = true
  nd : p.hasDict = false
  dp : p.depth ≤ d
  ln : p.shown.length ≤ n
theorem Sh.mono {d n d' n' : Nat} {p : PyData} (s : Sh d n p) (h1 : d ≤ d') (h2 : n ≤ n') : Sh d' n' p := ⟨s.sh, s.nd, Nat.le_trans s.dp h1, Nat.le_trans s.ln h2⟩
theorem text_len : ∀ (ts : List Str) (k : Nat) (acc : Str) (n : Nat), (∀ t ∈ ts, t.length ≤ n) → (textFrom k acc ts).length ≤ acc.length + ts.length * (n + 2)
  | [], k, acc, n, _ => by show acc.length ≤ _; omega
  | t :: r, k, acc, n, h => by
    have ih := text_len r (k + 1) (acc ++ (if k > 0 then ", " else "" : String) ++ t) n fun u hu => h u (List.mem_cons_of_mem _ hu)
    have ht := h t List.mem_cons_self
    have e : (acc ++ (if k > 0 then ", " else "" : String) ++ t).length ≤ acc.length + 2 + t.length := by
      rw [strLen_append, strLen_append]
      split
      · show acc.length + 2 + t.length ≤ _; omega
      · show acc.length + 0 + t.length ≤ _; omega
    show (textFrom (k + 1) _ r).length ≤ _
    rw [List.length_cons, Nat.add_mul]
    omega
theorem list_len (ts : List Str) (n : Nat) (h : ∀ t ∈ ts, t.length ≤ n) : (listText ts).length ≤ ts.length * (n + 2) + 3 := by
  have := text_len ts 0 "[" n h
  show (textFrom 0 "[" ts ++ ("]" : Str)).length ≤ _
  rw [strLen_append]
  have e1 : ("[" : Str).length = 1 := rfl
  have e2 : ("]" : Str).length = 1 := rfl
  omega
theorem join_len (n : Nat) : ∀ ts : List Str, (∀ t ∈ ts, t.length ≤ n) → (Str.join ", " ts).length ≤ ts.length * (n + 2)
  | [], _ => by show 0 ≤ _; omega
  | [x], h => by
    have := h x (by simp)
    show x.length ≤ _
    simp; omega
  | x :: y :: r, h => by
    have ih := join_len n (y :: r) fun t ht => h t (List.mem_cons_of_mem _ ht)
    have hx := h x (by simp)
    show (x ++ ", " ++ Str.join ", " (y :: r)).length ≤ _
    rw [strLen_append, strLen_append]
    have e1 : ((", " : String) : Str).length = 2 := rfl
    rw [List.length_cons, Nat.add_mul]
    omega
theorem tuple_len (ts : List Str) (n : Nat) (h : ∀ t ∈ ts, t.length ≤ n) : (tupleText ts).length ≤ ts.length * (n + 2) + 3 := by
  have := join_len n ts h
  unfold tupleText
  rw [strLen_append, strLen_append]
  have e1 : ("(" : Str).length = 1 := rfl
  have e2 : (((if ts.length == 1 then ",)" else ")" : String) : Str)).length ≤ 2 := by split <;> decide
  omega
theorem shownAll_mem : ∀ (ps : List PyData) (n : Nat), (∀ p ∈ ps, p.shown.length ≤ n) → ∀ t ∈ PyData.shownAll ps, t.length ≤ n
  | [], _, _, t, ht => by simp [PyData.shownAll] at ht
  | p :: ps, n, h, t, ht => by
    simp only [PyData.shownAll, List.mem_cons] at ht
    rcases ht with rfl | ht
    · exact h p (by simp)
    · exact shownAll_mem ps n (fun q hq => h q (by simp [hq])) t ht
theorem shownAll_len : ∀ ps : List PyData, (PyData.shownAll ps).length = ps.length
  | [] => rfl
  | p :: ps => by simp [PyData.shownAll, shownAll_len ps]
theorem all_sh {d n : Nat} : ∀ ps : List PyData, (∀ p ∈ ps, Sh d n p) → PyData.showableAll ps = true ∧ PyData.hasDictAll ps = false ∧ PyData.depthAll ps ≤ d
  | [], _ => by simp [PyData.showableAll, PyData.hasDictAll, PyData.depthAll]
  | p :: ps, h => by
    obtain ⟨a, b, c⟩ := all_sh ps fun q hq => h q (by simp [hq])
    have := h p (by simp)
    simp only [PyData.showableAll, PyData.hasDictAll, PyData.depthAll, this.sh, this.nd, a, b, Bool.and_self, Bool.or_self, true_and]
    have := this.dp
    omega
theorem Sh.tup {d n : Nat} {ps : List PyData} (h : ∀ p ∈ ps, Sh d n p) : Sh (d + 1) (ps.length * (n + 2) + 3) (.tuple ps) := by
  obtain ⟨a, b, c⟩ := all_sh ps h
  refine ⟨by simpa [PyData.showable] using a, by simpa [PyData.hasDict] using b, by simp [PyData.depth]; omega, ?_⟩
  show (tupleText (PyData.shownAll ps)).length ≤ _
  have := tuple_len (PyData.shownAll ps) n (shownAll_mem ps n fun p hp => (h p hp).ln)
  rw [shownAll_len] at this
  exact this
theorem Sh.list {d n : Nat} {ps : List PyData} (h : ∀ p ∈ ps, Sh d n p) : Sh (d + 1) (ps.length * (n + 2) + 3) (.list ps) := by
  obtain ⟨a, b, c⟩ := all_sh ps h
  refine ⟨by simpa [PyData.showable] using a, by simpa [PyData.hasDict] using b, by simp [PyData.depth]; omega, ?_⟩
  show (listText (PyData.shownAll ps)).length ≤ _
  have := list_len (PyData.shownAll ps) n (shownAll_mem ps n fun p hp => (h p hp).ln)
  rw [shownAll_len] at this
  exact this
theorem Sh.int {i : Int} (h : i.natAbs < 2 ^ 90) : Sh 1 91 (.int i) := by
  have hl : i.natAbs.log2 < 90 := by
    by_cases c : i.natAbs = 0
    · rw [c]; decide
    · exact (Nat.log2_lt c).mpr h
  refine ⟨by simp [PyData.showable]; omega, by simp [PyData.hasDict], by simp [PyData.depth], ?_⟩
  have := int_text_length_le (a := i) (k := 90) (by decide) hl
  show (Str.ofString (toString i)).length ≤ 91
  rw [ofString_length]; exact this
theorem Sh.non : Sh 1 91 .none := ⟨by simp [PyData.showable], by simp [PyData.hasDict], by simp [PyData.depth], by decide +kernel⟩
theorem Sh.bl {b : Bool} : Sh 1 91 (.bool b) := ⟨by simp [PyData.showable], by simp [PyData.hasDict], by simp [PyData.depth], by cases b <;> decide +kernel⟩
theorem Sh.str {x : Str} (h : (reprText x).length ≤ 91) : Sh 1 91 (.str x) := ⟨by simp [PyData.showable], by simp [PyData.hasDict], by simp [PyData.depth], h⟩
/-- a value's text, read off the store -/
def ShH (h : Hh) (k d n : Nat) (x : D) : Prop := ∃ p, toP h k x = some p ∧ Sh d n p
theorem ShH.mono {h : Hh} {k d n d' n' : Nat} {x : D} (s : ShH h k d n x) (h1 : d ≤ d') (h2 : n ≤ n') : ShH h k d' n' x := by
  obtain ⟨p, e, s⟩ := s
  exact ⟨p, e, s.mono h1 h2⟩
theorem ShH.shows {h : Hh} {d n : Nat} {x : D} (s : ShH h 7 d n x) (h1 : d ≤ 50) (h2 : n ≤ 1000000) : Shows h x := by
  obtain ⟨p, e, s⟩ := s
  exact ⟨p, e, s.sh, s.nd, Nat.le_trans s.dp h1, Nat.le_trans s.ln h2⟩
theorem shH_all {h : Hh} {k d n : Nat} : ∀ xs : List D, (∀ x ∈ xs, ShH h k d n x) → ∃ ps, toPs h k xs = some ps ∧ ps.length = xs.length ∧ ∀ p ∈ ps, Sh d n p
  | [], _ => ⟨[], by simp [toPs], rfl, by simp⟩
  | x :: xs, hs => by
    obtain ⟨p, e, s⟩ := hs x (by simp)
    obtain ⟨ps, e2, l, s2⟩ := shH_all xs fun y hy => hs y (by simp [hy])
    refine ⟨p :: ps, by simp [toPs, e, e2], by simp [l], fun q hq => ?_⟩
    rcases List.mem_cons.mp hq with rfl | hq
    · exact s
    · exact s2 q hq
theorem ShH.tup {h : Hh} {k d n : Nat} {xs : List D} (hs : ∀ x ∈ xs, ShH h k d n x) : ShH h k (d + 1) (xs.length * (n + 2) + 3) (.tup xs) := by
  obtain ⟨ps, e, l, s⟩ := shH_all xs hs
  refine ⟨.tuple ps, by simp [toP, e], ?_⟩
  rw [← l]
  exact Sh.tup s
theorem ShH.obj {h : Hh} {k d n m : Nat} {xs : List D} (e0 : h[m]? = some (.lst xs)) (hs : ∀ x ∈ xs, ShH h k d n x) : ShH h (k + 1) (d + 1) (xs.length * (n + 2) + 3) (.obj m) := by
  obtain ⟨ps, e, l, s⟩ := shH_all xs hs
  refine ⟨.list ps, by simp [toP, e0, e], ?_⟩
  rw [← l]
  exact Sh.list s
theorem ShH.int {h : Hh} {k : Nat} {i : Int} (hi : i.natAbs < 2 ^ 90) : ShH h k 1 91 (.int i) := ⟨.int i, by simp [toP], .int hi⟩
theorem ShH.non {h : Hh} {k : Nat} : ShH h k 1 91 .non := ⟨.none, by simp [toP], .non⟩
theorem ShH.bl {h : Hh} {k : Nat} {b : Bool} : ShH h k 1 91 (.bl b) := ⟨.bool b, by simp [toP], .bl⟩
theorem ShH.str {h : Hh} {k : Nat} {x : Str} (hx : (reprText x).length ≤ 91) : ShH h k 1 91 (.str x) := ⟨.str x, by simp [toP], .str hx⟩
theorem ShH.ints {h : Hh} {k : Nat} {xs : List Int} (hs : ∀ x ∈ xs, x.natAbs < 2 ^ 90) : ShH h k 2 (xs.length * 93 + 3) (.tup (xs.map .int)) := by
  have := ShH.tup (h := h) (k := k) (d := 1) (n := 91) (xs := xs.map D.int) fun x hx => by
    obtain ⟨i, hi, rfl⟩ := List.mem_map.mp hx
    exact .int (hs i hi)
  simpa using this
theorem ShH.fr {h : Hh} {k : Nat} {p : Fr} (a : p.1.natAbs < 2 ^ 90) (b : p.2.natAbs < 2 ^ 90) : ShH h k 2 189 (frD p) := by
  have := ShH.tup (h := h) (k := k) (d := 1) (n := 91) (xs := [.int p.1, .int p.2]) fun x hx => by
    simp only [List.mem_cons, List.not_mem_nil, or_false] at hx
    rcases hx with rfl | rfl
    · exact .int a
    · exact .int b
  exact this
theorem ShH.fm {h : Hh} {k : Nat} {f : List Fr} (v : VF f) (l : f.length ≤ 4) : ShH h k 3 767 (fmD f) := by
  have := ShH.tup (h := h) (k := k) (d := 2) (n := 189) (xs := f.map frD) fun x hx => by
    obtain ⟨p, hp, rfl⟩ := List.mem_map.mp hx
    have a := (v p hp).1
    have b := (v p hp).2
    have b1 := b.1
    have b2 := Int.le_of_dvd (by decide) b.2
    exact .fr (by omega) (by omega)
  refine this.mono (Nat.le_refl _) ?_
  rw [List.length_map]
  have : f.length * (189 + 2) ≤ 4 * (189 + 2) := Nat.mul_le_mul_right _ l
  omega
theorem ShH.fs {h : Hh} {k : Nat} {fs : List (List Fr)} (v : ∀ f ∈ fs, VF f ∧ f.length ≤ 4) (l : fs.length ≤ 7) : ShH h k 4 5386 (fsD fs) := by
  have := ShH.tup (h := h) (k := k) (d := 3) (n := 767) (xs := fs.map fmD) fun x hx => by
    obtain ⟨p, hp, rfl⟩ := List.mem_map.mp hx
    exact .fm (v p hp).1 (v p hp).2
  refine this.mono (Nat.le_refl _) ?_
  rw [List.length_map]
  have : fs.length * (767 + 2) ≤ 7 * (767 + 2) := Nat.mul_le_mul_right _ l
  omega
end K67

set_option Elab.async false
set_option linter.all false
set_option maxRecDepth 100000
set_option maxHeartbeats 4000000
namespace K67
open PySem Ev

theorem fin_or {h h' : Hh} {d : D} {Q : D → Hh → Prop} (q1 : D.lt h.length d = true → Q d h) (q2 : Q d h') : Ok (fin h d h') Q := by
  unfold fin
  split
  · rename_i c
    exact q1 c.1
  · exact q2
def someE : E := .comp (.mk (.var 7) (.nm 7) (.rng (.cons (.var 3) (.cons (.lit (.int (80))) (.cons (.var 4) .nil)))) (.so (.call 27 (.cons (.var 1) (.cons (.var 2) (.cons (.var 3) (.cons (.var 7) (.cons (.var 4) .nil))))))) [7])
def pickB (es : List Int) (rows : List (List Int)) (es' : List Int) (rows' : List (List Int)) (per : Int) (rest : Nat) : D → Option D
  | .int i => if startL es rows es' rows' per rest (.int i) = true then some (.int i) else none
  | _ => none
theorem pick_ints {es es' : List Int} {rows rows' : List (List Int)} {per : Int} {rest : Nat} : ∀ ns : List Nat, ∃ ss : List Int, (ns.map fun n => D.int (n : Nat)).filterMap (pickB es rows es' rows' per rest) = ss.map .int ∧ ∀ x ∈ ss, ∃ n ∈ ns, x = (n : Int)
  | [] => ⟨[], rfl, by simp⟩
  | n :: ns => by
    obtain ⟨ss, e, hs⟩ := pick_ints (es := es) (es' := es') (rows := rows) (rows' := rows') (per := per) (rest := rest) ns
    rw [List.map_cons, List.filterMap_cons]
    cases c : startL es rows es' rows' per rest (.int (n : Int)) with
    | true =>
      refine ⟨n :: ss, by simp [pickB, c, e], fun x hx => ?_⟩
      rcases List.mem_cons.mp hx with rfl | hx
      · exact ⟨n, by simp, rfl⟩
      · obtain ⟨m, hm, e⟩ := hs x hx
        exact ⟨m, by simp [hm], e⟩
    | false =>
      refine ⟨ss, by simp [pickB, c, e], fun x hx => ?_⟩
      obtain ⟨m, hm, e⟩ := hs x hx
      exact ⟨m, by simp [hm], e⟩
theorem plcs_len {r : Nat} {per : Int} (hp : 1 ≤ per) : (plcs r 80 per).length ≤ 1000 := by
  unfold plcs
  simp
  unfold Builtin.Range.rangeSize
  rw [if_pos (show per > 0 by omega)]
  split
  · have h2 : ((80 : Int) - r - 1) / per ≤ 80 - r - 1 := Int.ediv_le_self _ (by omega)
    omega
  · omega
theorem some_ok {k q m m' F rest : Nat} {es es' : List Int} {rows rows' : List (List Int)} {per : Int} {x6 x7 : Option D} {h : Hh} (P : Pairs q h m m' es rows es' rows') (hper : 1 ≤ per ∧ per < 1000) (hrest : rest < 1000) :
    ∃ ss : List Int, (∀ x ∈ ss, 0 ≤ x ∧ x < 80) ∧ evE (callF K67.P 100 (k + 3)) someE [some (.obj q), some (.obj m), some (.obj m'), some (.int rest), some (.int per), some (.obj F), x6, x7] h = .ok (.obj h.length) (h ++ [.lst (ss.map .int)]) := by
  obtain ⟨ss, e, hs⟩ := pick_ints (es := es) (es' := es') (rows := rows) (rows' := rows') (per := per) (rest := rest) (plcs rest 80 per)
  refine ⟨ss, fun x hx => ?_, ?_⟩
  · obtain ⟨n, hn, rfl⟩ := hs x hx
    have := plcs_lt hper.1 hn
    omega
  · have rg := rng_3 (r := rest) (a := 80) (per := per) hrest (by decide) hper
    have ln := plcs_len (r := rest) hper.1
    unfold someE
    simp [rg]
    rw [if_pos (by omega), compD_pure (g := pickB es rows es' rows' per rest) rfl _ [] (fun x mx => by
      obtain ⟨n, hn, rfl⟩ := List.mem_map.mp mx
      have s1 := s_start_holds (k := k) (h := h) (m := m) (m' := m') (x := .int (n : Int)) (per := per) (rest := rest) P.r1 P.r2 P.one.pair P.two.pair rfl hper hrest
      cases c : startL es rows es' rows' per rest (.int (n : Int)) with
      | true => rw [c] at s1; simp [wipeE, s1, pickB, c]
      | false => rw [c] at s1; simp [wipeE, s1, pickB, c])]
    simp [e]
def bodyP : Ss := (.cons (.asg (.nm 6) someE) (.cons (.app (.var 5) (.ife (.cmp .ne (.var 6) (.lst .nil)) (.idx (.var 6) (.lit (.int (0)))) (.bin .add (.var 3) (.bin .mul (.var 4) (.call 19 (.cons (.var 0) (.cons (.lit (.int (20))) .nil))))))) .nil))
theorem Pairs.kp {q : Nat} {h h' : Hh} {m m' : Nat} {es es' : List Int} {rows rows' : List (List Int)} (P : Pairs q h m m' es rows es' rows') (k : Kp q h h') : Pairs q h' m m' es rows es' rows' := ⟨P.one.kp k, P.two.kp k, P.r1, P.r2⟩
theorem turnP {k q m m' F rest : Nat} {es es' : List Int} {rows rows' : List (List Int)} {per : Int} {x6 x7 : Option D} {xs : List Int} {h : Hh} (p : PurseAt h q) (P : Pairs q h m m' es rows es' rows') (hper : 1 ≤ per ∧ per ≤ 30) (hrest : rest < 30) (hF : h[F]? = some (.lst (xs.map .int))) (Fq : F ≠ q) (hxs : xs.length < 1000) :
    Ok (exSs (callF K67.P 100 (k + 3)) 100 bodyP [some (.obj q), some (.obj m), some (.obj m'), some (.int rest), some (.int per), some (.obj F), x6, x7] h) fun fl h' => ∃ (z : Option D) (x : Int), fl = .nx [some (.obj q), some (.obj m), some (.obj m'), some (.int rest), some (.int per), some (.obj F), z, x7] ∧ (0 ≤ x ∧ x ≤ 1000) ∧ PurseAt h' q ∧ h'[F]? = some (.lst ((xs ++ [x]).map .int)) ∧ h.length ≤ h'.length ∧ ∀ (j : Nat) (o : O), j ≠ q → j ≠ F → h[j]? = some o → h'[j]? = some o := by
  have hq := p.lt
  have hFl := (List.getElem?_eq_some_iff.mp hF).1
  obtain ⟨ss, hs, es1⟩ := some_ok (k := k) (F := F) (x6 := x6) (x7 := x7) (rest := rest) P (show 1 ≤ per ∧ per < 1000 by omega) (show rest < 1000 by omega)
  have pre1 : h <+: h ++ [O.lst (ss.map .int)] := List.prefix_append _ _
  have pre2 : h <+: h ++ [O.lst (ss.map .int)] ++ [O.lst []] := pre1.trans (List.prefix_append _ _)
  have c1 := cmp_nil (h := h ++ [O.lst (ss.map .int)] ++ [O.lst []]) (n := h.length) (m := (h ++ [O.lst (ss.map .int)]).length) (xs := ss) (by simp) (by simp)
  have app : ∀ (h2 : Hh) (x : Int), h2[F]? = some (.lst (xs.map .int)) → appop (.obj F) (.int x) h2 = .ok () (h2.set F (.lst ((xs ++ [x]).map .int))) := fun h2 x e => by
    simp only [appop, e, sz_val, List.length_map]
    rw [if_pos (by omega)]
    simp
  have goal : ∀ (h2 : Hh) (x : Int) (z : Option D), 0 ≤ x ∧ x ≤ 1000 → PurseAt h2 q → h2[F]? = some (.lst (xs.map .int)) → h.length ≤ h2.length → (∀ (j : Nat) (o : O), j ≠ q → h[j]? = some o → h2[j]? = some o) →
      ∃ (z' : Option D) (x' : Int), Fl.nx [some (.obj q), some (.obj m), some (.obj m'), some (.int rest), some (.int per), some (.obj F), z, x7] = .nx [some (.obj q), some (.obj m), some (.obj m'), some (.int rest), some (.int per), some (.obj F), z', x7] ∧ (0 ≤ x' ∧ x' ≤ 1000) ∧ PurseAt (h2.set F (.lst ((xs ++ [x]).map .int))) q ∧ (h2.set F (.lst ((xs ++ [x]).map .int)))[F]? = some (.lst ((xs ++ [x']).map .int)) ∧ h.length ≤ (h2.set F (.lst ((xs ++ [x]).map .int))).length ∧ ∀ (j : Nat) (o : O), j ≠ q → j ≠ F → h[j]? = some o → (h2.set F (.lst ((xs ++ [x]).map .int)))[j]? = some o := by
    intro h2 x z hx p2 eF l2 k2
    refine ⟨z, x, rfl, hx, p2.set Fq, List.getElem?_set_self (by omega), by simpa using l2, fun j o j1 j2 e => ?_⟩
    rw [List.getElem?_set_ne (Ne.symm j2)]
    exact k2 j o j1 e
  unfold bodyP
  rw [xs_cons, ok_bind, x_asg, ok_bind, es1, ok_ok]
  simp only [as_nm, Ev.R.bind_ok, ok_ok, List.set_cons_succ, List.set_cons_zero]
  rw [xs_cons, ok_bind, x_app, ok_bind]
  simp only [e_var, getV_eq, List.getElem?_cons_succ, List.getElem?_cons_zero, ok_ok]
  rw [ok_bind, e_ife, ok_bind]
  simp only [e_cmp, e_var, getV_eq, List.getElem?_cons_succ, List.getElem?_cons_zero, Ev.R.bind_ok, e_lst, es_nil, List.length_nil, sz_val]
  rw [if_pos (by decide)]
  simp only [Ev.R.bind_ok, c1, b01_some, ok_ok]
  cases ss with
  | cons x ss =>
    have i2 := items_obj (h := h ++ [O.lst ((x :: ss).map .int)] ++ [O.lst []]) (n := h.length) (xs := .int x :: ss.map .int) (by simp)
    have hF2 := Pre.get pre2 hF
    simp only [List.isEmpty_cons, Bool.not_false, e_idx, e_var, getV_eq, List.getElem?_cons_succ, List.getElem?_cons_zero, Ev.R.bind_ok, e_lit, ix_int, i2, Option.bind_some, atI_0, ok_ok, app _ x hF2, ok_bind, xs_nil]
    have := hs x (by simp)
    exact goal _ x _ (by omega) (p.push pre2) hF2 pre2.length_le fun j o _ e => Pre.get pre2 e
  | nil =>
    simp only [List.isEmpty_nil, Bool.not_true]
    rw [e_bin, ok_bind]
    simp only [e_var, getV_eq, List.getElem?_cons_succ, List.getElem?_cons_zero, ok_ok]
    rw [ok_bind, e_bin, ok_bind]
    simp only [e_var, getV_eq, List.getElem?_cons_succ, List.getElem?_cons_zero, ok_ok]
    rw [ok_bind]
    refine e_draw (k := k + 2) (m := 20) (by simp) (p.push pre2) (by decide) fun i h3 a1 b1 p3 l3 k3 => ?_
    have hF3 := k3.at_ _ _ Fq (Pre.get pre2 hF)
    have m1 : per * i ≤ 30 * 19 := Int.mul_le_mul (by omega) (by omega) a1 (by decide)
    have m0 : 0 ≤ per * i := Int.mul_nonneg (by omega) a1
    simp only [bin_mul_l (i := per) (j := i) (by omega), ok_ok, bin_add_int, app _ _ hF3, Ev.R.bind_ok, ok_bind, xs_nil]
    exact goal _ _ _ (by omega) p3 hF3 (by have := pre2.length_le; omega) fun j o j1 e => k3.at_ _ _ j1 (Pre.get pre2 e)
theorem paper_ent {a b c : D} : ent f_law_paper [a, b, c] = [some a, some b, some c, none, none, none, none, none] := rfl
/-- what a paper is -/
structure Paper (per : Int) (xs : List Int) : Prop where
  len : (xs.length : Int) = per
  bd : ∀ x ∈ xs, 0 ≤ x ∧ x ≤ 1000
theorem s_paper {k q m m' : Nat} {es es' : List Int} {rows rows' : List (List Int)} {h : Hh} (p : PurseAt h q) (P : Pairs q h m m' es rows es' rows') :
    Ok (callF K67.P 100 (k + 4) 29 [.obj q, .obj m, .obj m'] h) fun d h' => ∃ xs : List Int, d = .tup (xs.map .int) ∧ Paper (lcmI rows.length rows'.length) xs ∧ PurseAt h' q ∧ Kp q h h' := by
  have hq := p.lt
  have lp := lcm_rows (a := rows.length) (b := rows'.length) ⟨P.r1.pos, P.r1.few⟩ ⟨P.r2.pos, P.r2.few⟩
  have e1 := s_period (k := k + 2) (h := h) P.r1 P.r2 P.one.pair P.two.pair
  generalize hper : lcmI rows.length rows'.length = per at *
  refine call_ok (fd := f_law_paper) rfl rfl ?_
  rw [paper_ent]
  unfold f_law_paper
  simp only []
  rw [xs_cons, ok_bind, x_asg, ok_bind]
  have s1 : evE (callF K67.P 100 (k + 3)) (.tup (.cons (.call 25 (.cons (.var 1) (.cons (.var 2) .nil))) (.cons (.lst .nil) .nil))) [some (.obj q), some (.obj m), some (.obj m'), none, none, none, none, none] h = .ok (.tup [.int per, .obj h.length]) (h ++ [O.lst []]) := by
    simp [e1]
  rw [s1, ok_ok]
  simp only [as_tp, items_tup, ats_cons, ats_nil, as_nm, Ev.R.bind_ok, ok_ok, List.set_cons_succ, List.set_cons_zero]
  rw [xs_cons, ok_bind, x_loop, ok_bind]
  obtain ⟨n, rfl⟩ := Int.eq_ofNat_of_zero_le (show 0 ≤ per by omega)
  have q0 := rangeD_from 0 n
  simp only [Int.natCast_zero] at q0
  rw [show evI (callF K67.P 100 (k + 3)) (.rng (.cons (.var 4) .nil)) [some (.obj q), some (.obj m), some (.obj m'), none, some (.int n), some (.obj h.length), none, none] (h ++ [O.lst []]) = .ok ((List.range' 0 n).map fun i => .int (i : Nat), []) (h ++ [O.lst []]) by simp [rng_1 (n := n) (by omega), q0], ok_ok]
  refine loop_ok _ (fun ys σ h' => ∃ (j c : Nat) (xs : List Int) (y3 y6 : Option D), j + c = n ∧ ys = (List.range' j c).map (fun i => D.int (i : Nat)) ∧ xs.length = j ∧ (∀ x ∈ xs, 0 ≤ x ∧ x ≤ 1000) ∧ h'[h.length]? = some (.lst (xs.map .int)) ∧ PurseAt h' q ∧ Kp q h h' ∧
    σ = [some (.obj q), some (.obj m), some (.obj m'), y3, some (.int n), some (.obj h.length), y6, none]) _ _ ⟨0, n, [], none, none, by omega, rfl, rfl, by simp, by simp, p.push (List.prefix_append _ _), .pre (List.prefix_append _ _), rfl⟩ (fun _ _ _ _ => rfl) ?_ ?_
  · rintro x ys σ h' ⟨j, c, xs, y3, y6, hj, e, hl, hb, eF, pq, kp, rfl⟩
    cases c with
    | zero => cases e
    | succ c =>
      rw [List.range'_succ, List.map_cons] at e
      injection e with e1 e2
      subst e1
      simp only [as_nm, Ev.R.bind_ok, List.set_cons_succ, List.set_cons_zero]
      refine (turnP (k := k) (rest := j) pq (P.kp kp) (by omega) (by omega) eF (by omega) (by omega)).imp ?_
      rintro fl h6 ⟨z, x, rfl, u1, u2, u3, u4, u5⟩
      refine ⟨j + 1, c, xs ++ [x], _, _, by omega, e2, by simp [hl], fun t ht => ?_, u3, u2, ⟨by have := kp.le; omega, fun i o hi eo => u5 i o hi (by have := (List.getElem?_eq_some_iff.mp eo).1; omega) (kp.at_ i o hi eo)⟩, rfl⟩
      rcases List.mem_append.mp ht with ht | ht
      · exact hb t ht
      · rw [List.mem_singleton.mp ht]; exact u1
  · rintro σ h' ⟨j, c, xs, y3, y6, hj, e, hl, hb, eF, pq, kp, rfl⟩
    cases c with
    | succ c => rw [List.range'_succ, List.map_cons] at e; cases e
    | zero =>
      have b1 : biop .tuple [.obj h.length] h' = .ok (.tup (xs.map .int)) h' := by simp only [biop, eF, biL]
      simp [b1]
      have pp : Paper (n : Int) xs := ⟨by omega, hb⟩
      exact fin_or (fun _ => ⟨xs, rfl, pp, p, .refl⟩) ⟨xs, rfl, pp, pq, kp⟩
end K67

set_option Elab.async false
set_option linter.all false
set_option maxRecDepth 100000
set_option maxHeartbeats 4000000
namespace K67
open PySem Ev

/-- what may be handed in as a certificate here -/
structure CertOk (h : Hh) (c : D) : Prop where
  ty : (tyName h c).isSome = true
  lt : ∀ xs, c = .tup xs → ∀ x ∈ xs, D.lt 0 x = true
  len : ∀ xs, c = .tup xs → xs.length < 1000
  sh : Shows h c
theorem lts_of {n : Nat} : ∀ {xs : List D}, (∀ x ∈ xs, D.lt n x = true) → D.lts n xs = true
  | [], _ => rfl
  | x :: xs, h => by
    show (D.lt n x && D.lts n xs) = true
    rw [h x (by simp), lts_of fun y hy => h y (by simp [hy])]
    rfl
theorem lts_to {n : Nat} : ∀ {xs : List D}, D.lts n xs = true → ∀ x ∈ xs, D.lt n x = true
  | [], _, x, hx => by cases hx
  | y :: xs, h, x, hx => by
    have h : (D.lt n y && D.lts n xs) = true := h
    simp only [Bool.and_eq_true] at h
    rcases List.mem_cons.mp hx with rfl | hx
    · exact h.1
    · exact lts_to h.2 x hx
/-- plain values are shown over any store -/
theorem cert_mono {h h' : Hh} {c : D} (l : D.lt 0 c = true) (x : CertOk h c) : CertOk h' c := by
  refine ⟨tyName_lt l, x.lt, x.len, ?_⟩
  obtain ⟨p, a, b⟩ := x.sh.ex
  rw [toP_pd 7 c l] at a
  exact ⟨p, by rw [toP_pd 7 c l]; exact a, b⟩
theorem cert_tup {h : Hh} {ds : List D} (hl : ds.length ≤ 40) (hs : ∀ x ∈ ds, D.lt 0 x = true ∧ ShH h 7 3 4000 x) : CertOk h (.tup ds) := by
  refine ⟨rfl, fun xs e x hx => ?_, fun xs e => ?_, ?_⟩
  · cases e; exact (hs x hx).1
  · cases e; omega
  · refine (ShH.tup (d := 3) (n := 4000) fun x hx => (hs x hx).2).shows (by decide) ?_
    have : ds.length * 4002 ≤ 40 * 4002 := Nat.mul_le_mul_right _ hl
    omega
theorem cert_one {h : Hh} {c : D} (ty : (tyName h c).isSome = true) (nt : ∀ xs, c ≠ .tup xs) (s : ShH h 7 3 4000 c) : CertOk h c := ⟨ty, fun xs e => absurd e (nt xs), fun xs e => absurd e (nt xs), s.shows (by decide) (by decide)⟩
theorem int_small {i : Int} (h : -1000000 ≤ i ∧ i ≤ 1000000) : i.natAbs < 2 ^ 90 := by omega
theorem sh_int {h : Hh} {i : Int} (hi : -1000000 ≤ i ∧ i ≤ 1000000) : D.lt 0 (.int i) = true ∧ ShH h 7 3 4000 (.int i) := ⟨rfl, (ShH.int (int_small hi)).mono (by decide) (by decide)⟩
theorem atI_mem {L : List D} {i : Int} (h0 : 0 ≤ i) (h1 : i < (L.length : Int)) : ∃ x ∈ L, L2.atI L i = some x := by
  obtain ⟨n, rfl⟩ := Int.eq_ofNat_of_zero_le h0
  have hn : n < L.length := by omega
  exact ⟨L[n], List.getElem_mem hn, by rw [atI_nat hn, List.getElem?_eq_getElem hn]⟩
theorem sub_cut {xs : List D} {lo hi : Option Int} : ∀ x ∈ cutD xs lo hi, x ∈ xs := fun x hx => by
  unfold cutD at hx
  exact List.mem_of_mem_drop (List.mem_of_mem_take hx)
theorem cut_len {xs : List D} {lo hi : Option Int} : (cutD xs lo hi).length ≤ xs.length := by
  unfold cutD
  simp only [List.length_take, List.length_drop]
  omega
theorem str_small : ((List.range 1001).all fun i => decide ((reprText ((toString (i : Int) : String) : Str)).length ≤ 91)) = true := by decide +kernel
theorem bentp_ent {a b c d : D} : ent f_law_bent_paper [a, b, c, d] = [some a, some b, some c, some d, none, none, none, none, none, none] := rfl
def oddP (xs : List D) (n : Nat) : List D := [.obj n, .tup (cutD xs none (some (-1))), .tup (xs ++ cutD xs none (some 1)), .tup [], .non, .tup xs.reverse, .tup [.tup xs], .int 0]
theorem odd_cert {xs : List Int} {per : Int} {n : Nat} {h : Hh} (pp : Paper per xs) (hper : 1 ≤ per ∧ per ≤ 30) (hn : h[n]? = some (.lst (xs.map .int))) : ∀ x ∈ oddP (xs.map .int) n, CertOk h x := by
  have hl : xs.length ≤ 30 := by have := pp.len; omega
  have hx : ∀ x ∈ xs.map D.int, D.lt 0 x = true ∧ ShH h 7 3 4000 x := fun x hx => by
    obtain ⟨i, hi, rfl⟩ := List.mem_map.mp hx
    have := pp.bd i hi
    exact sh_int (by omega)
  have hx1 : ∀ x ∈ xs.map D.int, ShH h 6 1 91 x := fun x hx => by
    obtain ⟨i, hi, rfl⟩ := List.mem_map.mp hx
    have := pp.bd i hi
    exact .int (int_small (by omega))
  intro x hx'
  simp only [oddP, List.mem_cons, List.not_mem_nil, or_false] at hx'
  rcases hx' with rfl | rfl | rfl | rfl | rfl | rfl | rfl | rfl
  · refine cert_one (by rw [ty_obj hn]; rfl) (by intro xs e; cases e) ((ShH.obj hn hx1).mono (by decide) ?_)
    rw [List.length_map]
    have : xs.length * 93 ≤ 30 * 93 := Nat.mul_le_mul_right _ hl
    omega
  · refine cert_tup ?_ fun x m => hx x (sub_cut x m)
    have := cut_len (xs := xs.map D.int) (lo := none) (hi := some (-1))
    simp at this; omega
  · refine cert_tup ?_ fun x m => ?_
    · have : (cutD (xs.map D.int) none (some 1)).length ≤ 1 := by
        unfold cutD HT.sIx
        simp
        omega
      simp; omega
    · rcases List.mem_append.mp m with m | m
      · exact hx x m
      · exact hx x (sub_cut x m)
  · exact cert_tup (by simp) (by simp)
  · exact cert_one rfl (by intro xs e; cases e) (ShH.non.mono (by decide) (by decide))
  · exact cert_tup (by simp; omega) fun x m => hx x (by simpa using m)
  · refine cert_tup (by simp) fun x m => ?_
    rw [List.mem_singleton.mp m]
    refine ⟨?_, ?_⟩
    · have c := clns_int 1 xs
      unfold clns at c
      simp only [Bool.and_eq_true] at c
      exact c.1.1
    · refine (ShH.ints (h := h) (k := 7) fun i hi => int_small (by have := pp.bd i hi; omega)).mono (by decide) ?_
      have : xs.length * 93 ≤ 30 * 93 := Nat.mul_le_mul_right _ hl
      omega
  · exact cert_one rfl (by intro xs e; cases e) ((ShH.int (int_small (by decide))).mono (by decide) (by decide))
theorem s_bent_paper {k q : Nat} {xs : List Int} {per : Int} {a b : D} {h : Hh} (p : PurseAt h q) (pp : Paper per xs) (hper : 1 ≤ per ∧ per ≤ 30) :
    Ok (callF K67.P 100 (k + 2) 30 [.obj q, a, b, .tup (xs.map .int)] h) fun d h' => CertOk h' d ∧ PurseAt h' q ∧ Kp q h h' := by
  have hq := p.lt
  have hl := pp.len
  refine call_ok (fd := f_law_bent_paper) rfl rfl ?_
  rw [bentp_ent]
  unfold f_law_bent_paper
  simp only []
  rw [xs_cons, ok_bind, x_par, ok_bind, es_cons, ok_bind]
  refine e_draw (m := (xs.length : Int)) (by simp) p (by omega) fun at_ h1 a0 a1 p1 l1 k1 => ?_
  rw [ok_bind, es_cons, ok_bind]
  refine e_draw (m := 10) (by simp) p1 (by decide) fun way h2 w0 w1 p2 l2 k2 => ?_
  have k02 := k1.trans k2
  simp only [es_cons, e_bi, e_var, getV_eq, List.getElem?_cons_succ, List.getElem?_cons_zero, Ev.R.bind_ok, es_nil, bi_len_tup, List.length_map, ok_bind, ok_ok, List.length_cons, List.length_nil, if_true, setAll, List.set_cons_succ, List.set_cons_zero]
  have add : ∀ (x y : List D) (h : Hh), x.length + y.length ≤ 100 → binop .add (.tup x) (.tup y) h = .ok (.tup (x ++ y)) h := fun x y h l => by
    simp only [binop, sz_val]
    rw [if_pos (by omega)]
  rw [xs_cons, ok_bind, x_ite, ok_bind]
  simp only [e_cmp, e_var, getV_eq, List.getElem?_cons_succ, List.getElem?_cons_zero, Ev.R.bind_ok, e_lit, cmp_lt_int, b01_some, ok_ok]
  by_cases cw : way < 2
  · simp only [cw, decide_true]
    have s1 : ∀ x4 x5 x6 x7 x8 x9 : Option D, evE (callF K67.P 100 (k + 1)) (.lst (.cons (.bi .list (.cons (.var 3) .nil)) (.cons (.slc (.var 3) .no (.so (.neg (.lit (.int (1)))))) (.cons (.bin .add (.var 3) (.slc (.var 3) .no (.so (.lit (.int (1)))))) (.cons (.tup .nil) (.cons (.lit .non) (.cons (.rev (.var 3)) (.cons (.tup (.cons (.var 3) .nil)) (.cons (.lit (.int (0))) .nil))))))))) [some (.obj q), some a, some b, some (.tup (xs.map .int)), x4, x5, x6, x7, x8, x9] h2
        = .ok (.obj (h2.length + 1)) (h2 ++ [O.lst (xs.map .int)] ++ [O.lst (oddP (xs.map .int) h2.length)]) := by
      intros
      have c1 : (cutD (xs.map D.int) none (some 1)).length ≤ (xs.map D.int).length := cut_len
      have l0 : biop .list [.tup (xs.map D.int)] h2 = .ok (.obj h2.length) (h2 ++ [O.lst (xs.map .int)]) := rfl
      have sl : ∀ (lo hi : Option Int) (h : Hh), slop h (.tup (xs.map D.int)) lo hi = .ok (.tup (cutD (xs.map D.int) lo hi)) h := fun _ _ _ => rfl
      have rv : ∀ h : Hh, revop h (.tup (xs.map D.int)) = .ok (.tup (xs.map D.int).reverse) h := fun _ => rfl
      simp only [e_lst, es_cons, es_nil, e_bi, e_var, getV_eq, List.getElem?_cons_succ, List.getElem?_cons_zero, Ev.R.bind_ok, l0, e_slc, eo_no, eo_so, e_neg, e_lit, sl, e_bin, add (xs.map D.int) (cutD (xs.map D.int) none (some 1)) _ (by simp at c1 ⊢; omega), e_tup, List.length_nil, List.length_cons, sz_val, e_rev, rv]
      simp [oddP]
    rw [xs_cons, ok_bind, x_asg, ok_bind, s1, ok_ok]
    simp only [as_nm, Ev.R.bind_ok, ok_ok, List.set_cons_succ, List.set_cons_zero]
    rw [xs_cons, ok_bind, x_ret, ok_bind, e_idx, ok_bind]
    simp only [e_var, getV_eq, List.getElem?_cons_succ, List.getElem?_cons_zero, ok_ok]
    have pre : h2 <+: h2 ++ [O.lst (xs.map .int)] ++ [O.lst (oddP (xs.map .int) h2.length)] := by rw [List.append_assoc]; exact List.prefix_append _ _
    rw [ok_bind]
    refine e_draw (m := 8) (by simp) (p2.push pre) (by decide) fun j h3 j0 j1 p3 l3 k3 => ?_
    have g1 := k3.at_ h2.length (.lst (xs.map .int)) (by omega) (by simp)
    have g2 := k3.at_ (h2.length + 1) (.lst (oddP (xs.map .int) h2.length)) (by omega) (by simp)
    obtain ⟨x, hx, ex⟩ := atI_mem (L := oddP (xs.map .int) h2.length) j0 (by simpa [oddP] using j1)
    have cx := odd_cert pp hper g1 x hx
    simp only [ix_int, items_obj g2, Option.bind_some, ex, ok_ok, Fl.val_rt]
    refine ⟨x, rfl, fin_or (fun lt => ?_) ⟨cx, p3, (k02.trans (.pre pre)).trans k3⟩⟩
    refine ⟨?_, p, .refl⟩
    simp only [oddP, List.mem_cons, List.not_mem_nil, or_false] at hx
    rcases hx with rfl | hx
    · simp [D.lt] at lt; omega
    · have plain : D.lt 0 x = true := by
        have c := clns_int 1 xs
        unfold clns at c
        simp only [Bool.and_eq_true] at c
        have cc := c.1.1
        rcases hx with rfl | rfl | rfl | rfl | rfl | rfl | rfl
        · exact lts_of fun y hy => lts_to cc y (sub_cut y hy)
        · exact lts_of fun y hy => (List.mem_append.mp hy).elim (lts_to cc y) fun m => lts_to cc y (sub_cut y m)
        · rfl
        · rfl
        · exact lts_of fun y hy => lts_to cc y (by simpa using hy)
        · show (D.lts 0 (xs.map D.int) && true) = true
          rw [cc]; rfl
        · rfl
      exact cert_mono plain cx
  · simp only [cw, decide_false]
    rw [xs_nil, ok_ok]
    simp only []
    obtain ⟨n, rfl⟩ := Int.eq_ofNat_of_zero_le a0
    have hn : n < xs.length := by omega
    have ai : L2.atI (xs.map D.int) (n : Int) = some (.int xs[n]) := by
      rw [atI_nat (by simpa using hn)]; simp [hn]
    have bo := pp.bd xs[n] (List.getElem_mem hn)
    generalize xs[n] = old at ai bo
    have d0 : 0 ≤ (1000 - (n : Int)) / (xs.length : Int) := Int.ediv_nonneg (by omega) (by omega)
    have d1 : (1000 - (n : Int)) / (xs.length : Int) ≤ 1000 - (n : Int) := Int.ediv_le_self _ (by omega)
    have fd : ∀ h : Hh, binop .fdiv (.int (1000 - (n : Int))) (.int (xs.length : Int)) h = .ok (.int ((1000 - (n : Int)) / (xs.length : Int))) h := fun h => bin_fdiv (by omega) (by omega)
    generalize hD : (1000 - (n : Int)) / (xs.length : Int) = dv at fd d0 d1
    have m1 : dv * (xs.length : Int) ≤ 1000 * 30 := Int.mul_le_mul (by omega) (by omega) (by omega) (by decide)
    have m0 : 0 ≤ dv * (xs.length : Int) := Int.mul_nonneg d0 (by omega)
    rw [xs_cons, ok_bind]
    have s8 : ∀ x4 x6 x8 x9 : Option D, exS (callF K67.P 100 (k + 1)) 100 (.par [8, 9] (.cons (.idx (.var 3) (.var 5)) (.cons (.bin .add (.var 5) (.bin .mul (.bin .fdiv (.bin .sub (.lit (.int (1000))) (.var 5)) (.var 7)) (.var 7))) .nil))) [some (.obj q), some a, some b, some (.tup (xs.map .int)), x4, some (.int n), x6, some (.int (xs.length : Int)), x8, x9] h2
        = .ok (.nx [some (.obj q), some a, some b, some (.tup (xs.map .int)), x4, some (.int n), x6, some (.int (xs.length : Int)), some (.int old), some (.int (n + dv * (xs.length : Int)))]) h2 := by
      intros
      simp [ai, fd, bin_mul_l (i := dv) (j := (xs.length : Int)) (by omega), setAll]
    rw [s8, ok_ok]
    simp only []
    generalize hT : (n : Int) + dv * (xs.length : Int) = top
    have t0 : 0 ≤ top ∧ top ≤ 40000 := by omega
    have hst : ∀ h : Hh, biop .str [.int old] h = .ok (.str (toString old)) h := fun h => by
      simp only [biop]
      rw [if_pos]
      have : old.natAbs < 2 ^ 10 := by omega
      by_cases c : old.natAbs = 0
      · rw [c]; decide
      · have := (Nat.log2_lt c).mpr this
        omega
    have s9 : ∀ x4 x5 x6 : Option D, evE (callF K67.P 100 (k + 1)) (.lst (.cons (.bin .add (.var 8) (.var 7)) (.cons (.bin .sub (.var 8) (.var 7)) (.cons (.bin .add (.var 8) (.lit (.int (1)))) (.cons (.var 9) (.cons (.bin .add (.var 9) (.var 7)) (.cons (.neg (.lit (.int (1)))) (.cons (.lit (.bl true)) (.cons (.lit .non) (.cons (.bi .str (.cons (.var 8) .nil)) (.cons (.bin .add (.var 8) (.bin .mul (.lit (.int (2))) (.var 7))) (.cons (.var 8) .nil)))))))))))) [some (.obj q), some a, some b, some (.tup (xs.map .int)), x4, x5, x6, some (.int (xs.length : Int)), some (.int old), some (.int top)] h2
        = .ok (.obj h2.length) (h2 ++ [O.lst [.int (old + xs.length), .int (old - xs.length), .int (old + 1), .int top, .int (top + xs.length), .int (-1), .bl true, .non, .str (toString old), .int (old + 2 * xs.length), .int old]]) := by
      intros
      simp [hst, bin_mul_l (i := 2) (j := (xs.length : Int)) (by decide)]
    rw [xs_cons, ok_bind, x_asg, ok_bind, s9, ok_ok]
    simp only [as_nm, Ev.R.bind_ok, ok_ok, List.set_cons_succ, List.set_cons_zero]
    generalize hL : [D.int (old + xs.length), .int (old - xs.length), .int (old + 1), .int top, .int (top + xs.length), .int (-1), .bl true, .non, .str (toString old), .int (old + 2 * xs.length), .int old] = L
    have LL : L.length = 11 := by rw [← hL]; rfl
    have Lok : ∀ h : Hh, ∀ x ∈ L, D.lt 0 x = true ∧ ShH h 7 3 4000 x := by
      intro h x hx
      rw [← hL] at hx
      simp only [List.mem_cons, List.not_mem_nil, or_false] at hx
      rcases hx with rfl | rfl | rfl | rfl | rfl | rfl | rfl | rfl | rfl | rfl | rfl
      · exact sh_int (by omega)
      · exact sh_int (by omega)
      · exact sh_int (by omega)
      · exact sh_int (by omega)
      · exact sh_int (by omega)
      · exact sh_int (by omega)
      · exact ⟨rfl, ShH.bl.mono (by decide) (by decide)⟩
      · exact ⟨rfl, ShH.non.mono (by decide) (by decide)⟩
      · refine ⟨rfl, (ShH.str ?_).mono (by decide) (by decide)⟩
        obtain ⟨o, rfl⟩ := Int.eq_ofNat_of_zero_le bo.1
        have := List.all_eq_true.mp str_small o (List.mem_range.mpr (by omega))
        simpa using this
      · exact sh_int (by omega)
      · exact sh_int (by omega)
    have pre : h2 <+: h2 ++ [O.lst L] := List.prefix_append _ _
    rw [xs_cons, ok_bind, x_ret, ok_bind, e_bin, ok_bind, e_bin, ok_bind]
    have sl : ∀ (lo hi : Option Int) (h : Hh), slop h (.tup (xs.map D.int)) lo hi = .ok (.tup (cutD (xs.map D.int) lo hi)) h := fun _ _ _ => rfl
    simp only [e_slc, e_var, getV_eq, List.getElem?_cons_succ, List.getElem?_cons_zero, Ev.R.bind_ok, eo_no, eo_so, sl, ok_ok]
    rw [ok_bind, e_tup, ok_bind, es_cons, ok_bind, e_idx, ok_bind]
    simp only [e_var, getV_eq, List.getElem?_cons_succ, List.getElem?_cons_zero, ok_ok]
    rw [ok_bind]
    refine e_draw (m := 11) (by simp) (p2.push pre) (by decide) fun j h3 j0 j1 p3 l3 k3 => ?_
    have g2 := k3.at_ h2.length (.lst L) (by omega) (by simp)
    obtain ⟨x, hx, ex⟩ := atI_mem (L := L) j0 (by rw [LL]; omega)
    have u1 : (cutD (xs.map D.int) none (some (n : Int))).length ≤ xs.length := by have := cut_len (xs := xs.map D.int) (lo := none) (hi := some (n : Int)); simpa using this
    have u2 : (cutD (xs.map D.int) (some ((n : Int) + 1)) none).length ≤ xs.length := by have := cut_len (xs := xs.map D.int) (lo := some ((n : Int) + 1)) (hi := none); simpa using this
    have u3 : (cutD (xs.map D.int) none (some (n : Int))).length ≤ n := by
      unfold cutD HT.sIx
      simp only [List.length_take, List.length_drop, List.length_map]
      split <;> omega
    have u4 : (cutD (xs.map D.int) (some ((n : Int) + 1)) none).length ≤ xs.length - (n + 1) := by
      unfold cutD HT.sIx
      simp only [List.length_take, List.length_drop, List.length_map]
      split <;> omega
    simp only [ix_int, items_obj g2, Option.bind_some, ex, es_nil, Ev.R.bind_ok, ok_ok, List.length_cons, List.length_nil, sz_val]
    rw [if_pos (by decide)]
    simp only [ok_ok, add (cutD (xs.map D.int) none (some (n : Int))) [x] _ (by simp; omega), ok_bind, e_slc, e_var, getV_eq, List.getElem?_cons_succ, List.getElem?_cons_zero, Ev.R.bind_ok, eo_no, eo_so, e_bin, e_lit, bin_add_int, sl, add (cutD (xs.map D.int) none (some (n : Int)) ++ [x]) (cutD (xs.map D.int) (some ((n : Int) + 1)) none) _ (by simp; omega), Fl.val_rt]
    have cx : ∀ h : Hh, CertOk h (.tup (cutD (xs.map D.int) none (some (n : Int)) ++ [x] ++ cutD (xs.map D.int) (some ((n : Int) + 1)) none)) := fun h => by
      refine cert_tup (by simp; omega) fun y hy => ?_
      have hxs : ∀ y ∈ xs.map D.int, D.lt 0 y = true ∧ ShH h 7 3 4000 y := fun x hx => by
        obtain ⟨i, hi, rfl⟩ := List.mem_map.mp hx
        have := pp.bd i hi
        exact sh_int (by omega)
      rcases List.mem_append.mp hy with hy | hy
      · rcases List.mem_append.mp hy with hy | hy
        · exact hxs y (sub_cut y hy)
        · rw [List.mem_singleton.mp hy]; exact Lok h x hx
      · exact hxs y (sub_cut y hy)
    exact ⟨_, rfl, fin_or (fun _ => ⟨cx h, p, .refl⟩) ⟨cx h3, p3, (k02.trans (.pre pre)).trans k3⟩⟩
end K67

set_option Elab.async false
set_option linter.all false
set_option maxRecDepth 100000
set_option maxHeartbeats 4000000
namespace K67
open PySem Ev

/-- a claim that is refused, whatever comes with it -/
structure Rej (h : Hh) (d : D) : Prop where
  sh : Shows h d
  no : ∀ (cert : D) (k : Nat) (h' : Hh), h <+: h' → callF K67.P 100 (k + 8) 17 [d, cert] h' = .ok (.bl false) h'
/-- a part, as it is shown -/
def Prt (h : Hh) (x : D) : Prop := ShH h 7 5 6000 x
theorem shows_parts {h : Hh} {xs : List D} (hl : xs.length ≤ 6) (hs : ∀ x ∈ xs, Prt h x) : Shows h (.tup xs) := by
  refine (ShH.tup (d := 5) (n := 6000) hs).shows (by decide) ?_
  have : xs.length * 6002 ≤ 6 * 6002 := Nat.mul_le_mul_right _ hl
  omega
section
variable {es : List Int} {rows : List (List Int)} (R : Rows es rows)
include R
theorem told_rows (h : Hh) : Told h (.tup (es.map .int)) (fsD (rows.map formF)) true := ⟨fun k => by
  obtain ⟨g, t⟩ := R.good
  have := s_is_told (k := k) (h := h) (es := es) (fs := rows.map formF) g.v g.hf g.hl g.he
  rw [t] at this
  exact this⟩
theorem sh_lead {h : Hh} {k : Nat} : ShH h k 2 282 (.tup (es.map .int)) := by
  refine (ShH.ints (h := h) (k := k) fun i hi => int_small (by have := R.small i hi; omega)).mono (Nat.le_refl _) ?_
  have : es.length * 93 ≤ 3 * 93 := Nat.mul_le_mul_right _ R.lead
  omega
theorem vf_rows : ∀ f ∈ rows.map formF, VF f ∧ f.length ≤ 4 := fun f hf => by
  obtain ⟨r, hr, rfl⟩ := List.mem_map.mp hf
  exact form_vf (R.row r hr)
theorem sh_fs {h : Hh} {k : Nat} : ShH h k 4 5386 (fsD (rows.map formF)) := .fs (vf_rows R) (by have := R.few; simp; omega)
end
theorem lead_plain (es : List Int) : D.lt 0 (.tup (es.map .int)) = true := by
  have c := clns_int 1 es
  unfold clns at c
  simp only [Bool.and_eq_true] at c
  exact c.1.1
theorem fs_plain (fs : List (List Fr)) : D.lt 0 (fsD fs) = true := cln_lt (cln_fs (fs := fs))
def half1 : D := .tup [.int 1, .int 2]
def oddB (cs : List D) (n : Nat) (last : D) : List D := [.non, .int 0, .obj n, .str "", .tup [.non], .tup [half1], .tup (cs ++ [last])]
/-- what is refused in the place of early numbers -/
theorem odd_lead {es : List Int} {n : Nat} {xs : List D} {h : Hh} (hl : es.length ≤ 3) : ∀ x ∈ oddB (es.map .int) n (.bl true), (x = .obj n → h[n]? = some (.lst xs)) → BadE h x := by
  intro x hx hn
  simp only [oddB, List.mem_cons, List.not_mem_nil, or_false] at hx
  rcases hx with rfl | rfl | rfl | rfl | rfl | rfl | rfl
  · exact ⟨rfl, fun xs e => by cases e⟩
  · exact ⟨rfl, fun xs e => by cases e⟩
  · exact ⟨by rw [ty_obj (hn rfl)]; rfl, fun xs e => by cases e⟩
  · exact ⟨rfl, fun xs e => by cases e⟩
  · refine ⟨rfl, fun xs e => ?_⟩
    cases e
    exact ⟨by decide, fun x hx => by rw [List.mem_singleton.mp hx]; rfl, rfl⟩
  · refine ⟨rfl, fun xs e => ?_⟩
    cases e
    exact ⟨by decide, fun x hx => by rw [List.mem_singleton.mp hx]; rfl, rfl⟩
  · refine ⟨rfl, fun xs e => ?_⟩
    cases e
    refine ⟨by simp; omega, fun x hx => ?_, ?_⟩
    · rcases List.mem_append.mp hx with hx | hx
      · obtain ⟨i, _, rfl⟩ := List.mem_map.mp hx; rfl
      · rw [List.mem_singleton.mp hx]; rfl
    · rw [List.all_append]
      simp [isI]
theorem fmA_fm {f : List Fr} (v : VF f) (l : f.length ≤ 1000) : FmA (fmD f) := by
  refine ⟨cln_lt (cln_fm (f := f)), fun xs e => ?_⟩
  unfold fmD at e
  cases e
  refine ⟨by simpa using l, cln_fm' (n := 1) (f := f), fun t b hm => ?_⟩
  obtain ⟨p, hp, e⟩ := List.mem_map.mp hm
  have hb := (v p hp).2
  have b1 := hb.1
  have b2 := Int.le_of_dvd (by decide) hb.2
  unfold frD at e
  injection e with e
  injection e with e1 e
  injection e with e2 _
  injection e2 with e2
  omega
theorem half_no (a p : Int) : tellsB [(1, 2)] a p = false := by
  have b : botF [((1 : Int), (2 : Int))] = 2 := by decide
  have t : ∀ n : Int, topF [(1, 2)] n = 1 := fun n => by
    unfold topF
    rw [b]
    simp [over, ev]
  unfold tellsB
  rw [b]
  simp [t]
theorem half_all (n : Int) (fs : List (List Fr)) : tAll n (fs ++ [[(1, 2)]]) = false := by
  unfold tAll
  rw [List.all_eq_false]
  refine ⟨fs.length, List.mem_range.mpr (by simp), ?_⟩
  unfold tAt
  rw [show (fs ++ [[((1 : Int), (2 : Int))]])[fs.length]? = some [(1, 2)] by simp]
  simp only [half_no]
  decide
/-- what is refused in the place of forms -/
theorem odd_forms {es : List Int} {rows : List (List Int)} {n : Nat} {xs : List D} {h : Hh} (R : Rows es rows) : ∀ x ∈ oddB ((rows.map formF).map fmD) n (.tup [half1]), (x = .obj n → h[n]? = some (.lst xs)) → Told h (.tup (es.map .int)) x false := by
  intro x hx hn
  have lead := R.lead
  have bad : ∀ x, BadF h x → Told h (.tup (es.map .int)) x false := fun x b => ⟨fun k => s_told_badF (by omega) b⟩
  simp only [oddB, List.mem_cons, List.not_mem_nil, or_false] at hx
  rcases hx with rfl | rfl | rfl | rfl | rfl | rfl | rfl
  · exact bad _ ⟨rfl, fun xs e => by cases e⟩
  · exact bad _ ⟨rfl, fun xs e => by cases e⟩
  · exact bad _ ⟨by rw [ty_obj (hn rfl)]; rfl, fun xs e => by cases e⟩
  · exact bad _ ⟨rfl, fun xs e => by cases e⟩
  · refine bad _ ⟨rfl, fun xs e => ?_⟩
    cases e
    exact ⟨by simp, by decide, by decide, fun x hx => by rw [List.mem_singleton.mp hx]; exact ⟨rfl, fun xs e => by cases e⟩, rfl⟩
  · refine bad _ ⟨rfl, fun xs e => ?_⟩
    cases e
    refine ⟨by simp, by decide, by decide, fun x hx => ?_, rfl⟩
    rw [List.mem_singleton.mp hx]
    refine ⟨rfl, fun xs e => ?_⟩
    cases e
    exact ⟨by decide, by decide, fun t b hm => by simp at hm⟩
  · refine ⟨fun k => ?_⟩
    have v : ∀ f ∈ rows.map formF ++ [[((1 : Int), (2 : Int))]], VF f ∧ f.length ≤ 13 ∧ isFm (fmD f) = true := fun f hf => by
      rcases List.mem_append.mp hf with hf | hf
      · exact (R.good).1.v f hf
      · rw [List.mem_singleton.mp hf]
        refine ⟨fun p hp => ?_, by decide, by decide⟩
        rw [List.mem_singleton.mp hp]
        exact ⟨by decide, by decide, ⟨3, by decide⟩⟩
    have := s_is_told (k := k) (h := h) (es := es) (fs := rows.map formF ++ [[(1, 2)]]) v (by simp) (by have := R.few; simp; omega) (by omega)
    rw [half_all] at this
    have e : fsD (rows.map formF ++ [[(1, 2)]]) = .tup ((rows.map formF).map fmD ++ [.tup [half1]]) := by
      unfold fsD
      rw [List.map_append]
      rfl
    rw [e] at this
    exact this
theorem sh_odd {h : Hh} {cs : List D} {n : Nat} {last : D} (hl : cs.length ≤ 6) (hs : ∀ k, ∀ x ∈ cs, ShH h k 3 767 x) (hlast : ShH h 7 3 767 last) : ∀ x ∈ oddB cs n last, (x = .obj n → h[n]? = some (.lst cs)) → Prt h x := by
  intro x hx hn
  unfold Prt
  simp only [oddB, List.mem_cons, List.not_mem_nil, or_false] at hx
  rcases hx with rfl | rfl | rfl | rfl | rfl | rfl | rfl
  · exact ShH.non.mono (by decide) (by decide)
  · exact (ShH.int (by decide)).mono (by decide) (by decide)
  · refine (ShH.obj (k := 6) (hn rfl) (hs 6)).mono (by decide) ?_
    have : cs.length * 769 ≤ 6 * 769 := Nat.mul_le_mul_right _ hl
    omega
  · exact (ShH.str (by decide +kernel)).mono (by decide) (by decide)
  · exact (ShH.tup (d := 1) (n := 91) fun x hx => by rw [List.mem_singleton.mp hx]; exact .non).mono (by decide) (by decide)
  · refine (ShH.tup (d := 2) (n := 200) fun x hx => ?_).mono (by decide) (by decide)
    rw [List.mem_singleton.mp hx]
    exact (ShH.tup (d := 1) (n := 91) fun x hx => by
      simp only [List.mem_cons, List.not_mem_nil, or_false] at hx
      rcases hx with rfl | rfl <;> exact .int (by decide)).mono (by decide) (by decide)
  · refine (ShH.tup (d := 3) (n := 767) fun x hx => ?_).mono (by decide) ?_
    · rcases List.mem_append.mp hx with hx | hx
      · exact hs 7 x hx
      · rw [List.mem_singleton.mp hx]; exact hlast
    · have : (cs ++ [last]).length * 769 ≤ 7 * 769 := Nat.mul_le_mul_right _ (by simp; omega)
      omega
theorem in_24 {h : Hh} {n : Nat} {a : Int} (e : h[n]? = some (.lst [.int 2, .int 4])) : cmpop h .inn (.int a) (.obj n) = some (decide (a = 2) || decide (a = 4)) := by
  have t1 : toP h 8 (.int a) = some (.int a) := by simp [toP]
  have t2 : toP h 8 (.obj n) = some (.list [.int 2, .int 4]) := toP_obj e (by decide)
  show (match toP h 8 (.int a), toP h 8 (.obj n) with
    | some p, some (.list qs) => if SeqAt.shaped p = true ∧ SeqAt.shaped (.list qs) = true then some (qs.any fun z => PyData.eqv z p) else none
    | _, _ => none) = _
  rw [t1, t2]
  simp only
  rw [if_pos ⟨by simp [SeqAt.shaped, PyData.canLay0, PyData.depth], by decide⟩]
  have q : ∀ b : Int, PyData.eqv (.int b) (.int a) = decide (a = b) := fun b => by
    have : PyData.eqv (.int b) (.int a) = decide (b = a) := by simp [PyData.eqv]; rfl
    rw [this]
    by_cases c : a = b
    · subst c; simp
    · rw [decide_eq_false c, decide_eq_false (Ne.symm c)]
  simp [q]
end K67

set_option Elab.async false
set_option linter.all false
set_option maxRecDepth 100000
set_option maxHeartbeats 4000000
namespace K67
open PySem Ev

section
variable {es es' : List Int} {rows rows' : List (List Int)} (R : Rows es rows) (R' : Rows es' rows')
def X5 (es : List Int) (rows : List (List Int)) (es' : List Int) (rows' : List (List Int)) : List D := [.str kw, .tup (es.map .int), fsD (rows.map formF), .tup (es'.map .int), fsD (rows'.map formF)]
/-- the part at a place -/
def partAt (es : List Int) (rows : List (List Int)) (es' : List Int) (rows' : List (List Int)) : Nat → List D
  | 0 => es.map .int
  | 1 => (rows.map formF).map fmD
  | 2 => es'.map .int
  | _ => (rows'.map formF).map fmD
def lastAt : Nat → D
  | 0 => .bl true
  | 1 => .tup [half1]
  | 2 => .bl true
  | _ => .tup [half1]
include R R'
theorem prt_x5 {h : Hh} : ∀ x ∈ X5 es rows es' rows', Prt h x := by
  intro x hx
  simp only [X5, List.mem_cons, List.not_mem_nil, or_false] at hx
  rcases hx with rfl | rfl | rfl | rfl | rfl
  · exact (ShH.str (by decide +kernel)).mono (by decide) (by decide)
  · exact (sh_lead R).mono (by decide) (by decide)
  · exact (sh_fs R).mono (by decide) (by decide)
  · exact (sh_lead R').mono (by decide) (by decide)
  · exact (sh_fs R').mono (by decide) (by decide)
theorem part_sh {h : Hh} (n : Nat) : (partAt es rows es' rows' n).length ≤ 6 ∧ ∀ k, ∀ x ∈ partAt es rows es' rows' n, ShH h k 3 767 x := by
  have iA : ∀ {es : List Int} {rows : List (List Int)}, Rows es rows → (es.map D.int).length ≤ 6 ∧ ∀ k, ∀ x ∈ es.map D.int, ShH h k 3 767 x := fun R => by
    refine ⟨by have := R.lead; simp; omega, fun k x hx => ?_⟩
    obtain ⟨i, hi, rfl⟩ := List.mem_map.mp hx
    exact (ShH.int (int_small (by have := R.small i hi; omega))).mono (by decide) (by decide)
  have fA : ∀ {es : List Int} {rows : List (List Int)}, Rows es rows → ((rows.map formF).map fmD).length ≤ 6 ∧ ∀ k, ∀ x ∈ (rows.map formF).map fmD, ShH h k 3 767 x := fun R => by
    refine ⟨by have := R.few; simp; omega, fun k x hx => ?_⟩
    obtain ⟨f, hf, rfl⟩ := List.mem_map.mp hx
    have := vf_rows R f hf
    exact .fm this.1 this.2
  match n with
  | 0 => exact iA R
  | 1 => exact fA R
  | 2 => exact iA R'
  | n + 3 => exact fA R'
theorem last_sh {h : Hh} (n : Nat) : ShH h 7 3 767 (lastAt n) := by
  have b : ∀ h : Hh, ShH h 7 3 767 (.bl true) := fun h => ShH.bl.mono (by decide) (by decide)
  have c : ∀ h : Hh, ShH h 7 3 767 (.tup [half1]) := fun h => (ShH.tup (d := 2) (n := 200) fun x hx => by
    rw [List.mem_singleton.mp hx]
    exact (ShH.tup (d := 1) (n := 91) fun x hx => by
      simp only [List.mem_cons, List.not_mem_nil, or_false] at hx
      rcases hx with rfl | rfl <;> exact .int (by decide)).mono (by decide) (by decide)).mono (by decide) (by decide)
  match n with
  | 0 => exact b h
  | 1 => exact c h
  | 2 => exact b h
  | n + 3 => exact c h
theorem rej_of {h : Hh} {E F E' F' : D} {b b' : Bool} (sh : ∀ x ∈ [E, F, E', F'], Prt h x) (t : ∀ h', h <+: h' → Told h' E F b) (t' : ∀ h', h <+: h' → Told h' E' F' b') (n : (b && b') = false) : Rej h (.tup [.str kw, E, F, E', F']) := by
  refine ⟨shows_parts (by simp) fun x hx => ?_, fun cert k h' hp => s_accepts (s_at_most_bad (t h' hp) (t' h' hp) n)⟩
  rcases List.mem_cons.mp hx with rfl | hx
  · exact prt_x5 R R' _ (by simp [X5])
  · exact sh x hx
theorem rej_odd {h : Hh} {n N : Nat} (hn : n < 4) {x : D} (hx : x ∈ oddB (partAt es rows es' rows' n) N (lastAt n)) (hN : x = .obj N → h[N]? = some (.lst (partAt es rows es' rows' n))) :
    Rej h (.tup (cutD (X5 es rows es' rows') none (some ((1 + n : Nat) : Int)) ++ [x] ++ cutD (X5 es rows es' rows') (some (((1 + n : Nat) : Int) + 1)) none)) := by
  have ps := part_sh R R' (h := h) n
  have px := sh_odd ps.1 ps.2 (last_sh R R' (h := h) n) x hx hN
  have pe : ∀ y ∈ X5 es rows es' rows', Prt h y := prt_x5 R R'
  have mono : ∀ h', h <+: h' → x = .obj N → h'[N]? = some (.lst (partAt es rows es' rows' n)) := fun h' hp e => Pre.get hp (hN e)
  have e4 : n = 0 ∨ n = 1 ∨ n = 2 ∨ n = 3 := by omega
  rcases e4 with rfl | rfl | rfl | rfl
  · refine rej_of R R' (E := x) (F := fsD (rows.map formF)) (E' := .tup (es'.map .int)) (F' := fsD (rows'.map formF)) (fun y hy => ?_) (fun h' hp => ⟨fun k => s_told_badE (k := k + 4) (odd_lead R.lead x hx (mono h' hp))⟩) (fun h' _ => told_rows R' h') rfl
    rcases List.mem_cons.mp hy with rfl | hy
    · exact px
    · exact pe y (by simp only [X5, List.mem_cons] at hy ⊢; rcases hy with h | h | h | h <;> simp [h] at *)
  · refine rej_of R R' (E := .tup (es.map .int)) (F := x) (E' := .tup (es'.map .int)) (F' := fsD (rows'.map formF)) (fun y hy => ?_) (fun h' hp => odd_forms R x hx (mono h' hp)) (fun h' _ => told_rows R' h') rfl
    simp only [List.mem_cons, List.not_mem_nil, or_false] at hy
    rcases hy with rfl | rfl | rfl | rfl
    · exact pe _ (by simp [X5])
    · exact px
    · exact pe _ (by simp [X5])
    · exact pe _ (by simp [X5])
  · refine rej_of R R' (E := .tup (es.map .int)) (F := fsD (rows.map formF)) (E' := x) (F' := fsD (rows'.map formF)) (fun y hy => ?_) (fun h' _ => told_rows R h') (fun h' hp => ⟨fun k => s_told_badE (k := k + 4) (odd_lead R'.lead x hx (mono h' hp))⟩) rfl
    simp only [List.mem_cons, List.not_mem_nil, or_false] at hy
    rcases hy with rfl | rfl | rfl | rfl
    · exact pe _ (by simp [X5])
    · exact pe _ (by simp [X5])
    · exact px
    · exact pe _ (by simp [X5])
  · refine rej_of R R' (E := .tup (es.map .int)) (F := fsD (rows.map formF)) (E' := .tup (es'.map .int)) (F' := x) (fun y hy => ?_) (fun h' _ => told_rows R h') (fun h' hp => odd_forms R' x hx (mono h' hp)) rfl
    simp only [List.mem_cons, List.not_mem_nil, or_false] at hy
    rcases hy with rfl | rfl | rfl | rfl
    · exact pe _ (by simp [X5])
    · exact pe _ (by simp [X5])
    · exact pe _ (by simp [X5])
    · exact px
/-- those of another length, with another word, a list -/
def odd7 (X : List D) (N : Nat) : List D := [.tup (cutD X none (some 4)), .tup (X ++ [.tup []]), .tup ([.str "at  most"] ++ cutD X (some 1) none), .obj N]
theorem rej_7 {h : Hh} {N : Nat} {x : D} (hx : x ∈ odd7 (X5 es rows es' rows') N) (hN : x = .obj N → h[N]? = some (.lst (X5 es rows es' rows'))) : Rej h x := by
  have pe : ∀ y ∈ X5 es rows es' rows', Prt h y := prt_x5 R R'
  have pe6 : ∀ y ∈ X5 es rows es' rows', ShH h 6 5 6000 y := by
    intro x hx
    simp only [X5, List.mem_cons, List.not_mem_nil, or_false] at hx
    rcases hx with rfl | rfl | rfl | rfl | rfl
    · exact (ShH.str (by decide +kernel)).mono (by decide) (by decide)
    · exact (sh_lead R).mono (by decide) (by decide)
    · exact (sh_fs R).mono (by decide) (by decide)
    · exact (sh_lead R').mono (by decide) (by decide)
    · exact (sh_fs R').mono (by decide) (by decide)
  simp only [odd7, List.mem_cons, List.not_mem_nil, or_false] at hx
  rcases hx with rfl | rfl | rfl | rfl
  · refine ⟨shows_parts ?_ fun y hy => pe y (sub_cut y hy), fun cert k h' hp => s_accepts_no (k := k + 7) (.len _ ?_)⟩
    · exact (by decide : 4 ≤ 6)
    · exact (by decide : 4 ≠ 5)
  · refine ⟨shows_parts (by simp [X5]) fun y hy => ?_, fun cert k h' hp => s_accepts_no (k := k + 7) (.len _ (by simp [X5]))⟩
    rcases List.mem_append.mp hy with hy | hy
    · exact pe y hy
    · rw [List.mem_singleton.mp hy]
      exact (ShH.tup (d := 1) (n := 91) (xs := []) (by simp)).mono (by decide) (by decide)
  · refine ⟨shows_parts ?_ fun y hy => ?_, fun cert k h' hp => s_accepts_no (k := k + 7) (.word ("at  most" : Str) (.tup (es.map .int)) (fsD (rows.map formF)) (.tup (es'.map .int)) (fsD (rows'.map formF)) (by decide +kernel) (by decide +kernel) (by decide +kernel))⟩
    · exact (by decide : 5 ≤ 6)
    · rcases List.mem_append.mp hy with hy | hy
      · rw [List.mem_singleton.mp hy]
        exact (ShH.str (by decide +kernel)).mono (by decide) (by decide)
      · exact pe y (sub_cut y hy)
  · refine ⟨((ShH.obj (k := 6) (hN rfl) pe6).mono (Nat.le_refl _) (by simp [X5] : _ ≤ 5 * 6002 + 3)).shows (by decide) (by decide), fun cert k h' hp => s_accepts_no (k := k + 7) (.lst N _ (Pre.get hp (hN rfl)))⟩
end
end K67

set_option Elab.async false
set_option linter.all false
set_option maxRecDepth 100000
set_option maxHeartbeats 4000000
namespace K67
open PySem Ev

theorem bent_ent {a b : D} : ent f_law_bent [a, b] = [some a, some b, none, none, none, none] := rfl
def lastE : E := .ife (.cmp .inn (.var 4) (.lst (.cons (.lit (.int (2))) (.cons (.lit (.int (4))) .nil)))) (.tup (.cons (.tup (.cons (.lit (.int (1))) (.cons (.lit (.int (2))) .nil))) .nil)) (.lit (.bl true))
def oddE : E := .lst (.cons (.lit .non) (.cons (.lit (.int (0))) (.cons (.bi .list (.cons (.idx (.var 1) (.var 4)) .nil)) (.cons (.lit (.str ("" : Str))) (.cons (.tup (.cons (.lit .non) .nil)) (.cons (.tup (.cons (.tup (.cons (.lit (.int (1))) (.cons (.lit (.int (2))) .nil))) .nil)) (.cons (.bin .add (.idx (.var 1) (.var 4)) (.tup (.cons (.var 2) .nil))) .nil)))))))
def sevE : E := .idx (.lst (.cons (.slc (.var 1) .no (.so (.lit (.int (4))))) (.cons (.bin .add (.var 1) (.tup (.cons (.tup .nil) .nil))) (.cons (.bin .add (.tup (.cons (.lit (.str ("at  most" : Str))) .nil)) (.slc (.var 1) (.so (.lit (.int (1)))) .no)) (.cons (.bi .list (.cons (.var 1) .nil)) .nil))))) (.bin .sub (.var 4) (.lit (.int (1))))
def retE : E := .bin .add (.bin .add (.slc (.var 1) .no (.so (.var 4))) (.tup (.cons (.idx (.var 3) (.var 5)) .nil))) (.slc (.var 1) (.so (.bin .add (.var 4) (.lit (.int (1))))) .no)
section
variable {cf : CF} {es es' : List Int} {rows rows' : List (List Int)} {h : Hh} {n : Nat} {x0 x1 x2 x3 x5 : Option D}
theorem last_e (hn : n < 4) : evE cf lastE [x0, x1, x2, x3, some (.int ((1 + n : Nat) : Int)), x5] h = .ok (lastAt n) (h ++ [O.lst [.int 2, .int 4]]) := by
  have c := in_24 (h := h ++ [O.lst [.int 2, .int 4]]) (n := h.length) (a := ((1 + n : Nat) : Int)) (by simp)
  have e4 : n = 0 ∨ n = 1 ∨ n = 2 ∨ n = 3 := by omega
  rcases e4 with rfl | rfl | rfl | rfl
  · have c : cmpop (h ++ [O.lst [.int 2, .int 4]]) .inn (.int 1) (.obj h.length) = some false := c
    simp [lastE, c, lastAt]
  · have c : cmpop (h ++ [O.lst [.int 2, .int 4]]) .inn (.int 2) (.obj h.length) = some true := c
    simp [lastE, c, lastAt, half1]
  · have c : cmpop (h ++ [O.lst [.int 2, .int 4]]) .inn (.int 3) (.obj h.length) = some false := c
    simp [lastE, c, lastAt]
  · have c : cmpop (h ++ [O.lst [.int 2, .int 4]]) .inn (.int 4) (.obj h.length) = some true := c
    simp [lastE, c, lastAt, half1]
theorem at_part (hn : n < 4) : L2.atI (X5 es rows es' rows') ((1 + n : Nat) : Int) = some (.tup (partAt es rows es' rows' n)) := by
  have e4 : n = 0 ∨ n = 1 ∨ n = 2 ∨ n = 3 := by omega
  rcases e4 with rfl | rfl | rfl | rfl <;> rfl
variable (R : Rows es rows) (R' : Rows es' rows')
include R R'
theorem odd_e (hn : n < 4) : evE cf oddE [x0, some (.tup (X5 es rows es' rows')), some (lastAt n), x3, some (.int ((1 + n : Nat) : Int)), x5] h = .ok (.obj (h.length + 1)) (h ++ [O.lst (partAt es rows es' rows' n)] ++ [O.lst (oddB (partAt es rows es' rows' n) h.length (lastAt n))]) := by
  have a := at_part (es := es) (rows := rows) (es' := es') (rows' := rows') hn
  have pl := (part_sh R R' (h := h) n).1
  generalize partAt es rows es' rows' n = cs at *
  generalize lastAt n = la
  have l0 : biop .list [.tup cs] h = .ok (.obj h.length) (h ++ [O.lst cs]) := rfl
  have add : ∀ (x y : List D) (h : Hh), x.length + y.length ≤ 100 → binop .add (.tup x) (.tup y) h = .ok (.tup (x ++ y)) h := fun x y h l => by
    simp only [binop, sz_val]
    rw [if_pos (by omega)]
  generalize ((1 + n : Nat) : Int) = w at *
  unfold oddE
  simp only [e_lst, es_cons, es_nil, e_bi, e_lit, e_var, getV_eq, List.getElem?_cons_succ, List.getElem?_cons_zero, Ev.R.bind_ok, e_idx, ix_int, items_tup, Option.bind_some, a, l0, e_tup, e_bin, List.length_cons, List.length_nil, sz_val]
  simp [add cs [la] _ (by simp; omega), oddB, half1]
theorem sev_e (hn : n < 4) : ∃ x ∈ odd7 (X5 es rows es' rows') h.length, evE cf sevE [x0, some (.tup (X5 es rows es' rows')), x2, x3, some (.int ((1 + n : Nat) : Int)), x5] h = .ok x (h ++ [O.lst (X5 es rows es' rows')] ++ [O.lst (odd7 (X5 es rows es' rows') h.length)]) := by
  have l5 : (X5 es rows es' rows').length = 5 := rfl
  obtain ⟨x, hx, ex⟩ := atI_mem (L := odd7 (X5 es rows es' rows') h.length) (i := (n : Int)) (by omega) (by simp [odd7]; omega)
  refine ⟨x, hx, ?_⟩
  have add : ∀ (x y : List D) (h : Hh), x.length + y.length ≤ 100 → binop .add (.tup x) (.tup y) h = .ok (.tup (x ++ y)) h := fun x y h l => by
    simp only [binop, sz_val]
    rw [if_pos (by omega)]
  generalize X5 es rows es' rows' = X at *
  have sl : ∀ (lo hi : Option Int) (h : Hh), slop h (.tup X) lo hi = .ok (.tup (cutD X lo hi)) h := fun _ _ _ => rfl
  have l0 : biop .list [.tup X] h = .ok (.obj h.length) (h ++ [O.lst X]) := rfl
  have cl : (cutD X (some 1) none).length ≤ X.length := cut_len
  have g := items_obj (h := h ++ [O.lst X] ++ [O.lst (odd7 X h.length)]) (n := h.length + 1) (xs := odd7 X h.length) (by simp)
  have en : (((1 + n : Nat) : Int) - 1) = (n : Int) := by omega
  unfold sevE
  have s1 : evE cf (.lst (.cons (.slc (.var 1) .no (.so (.lit (.int (4))))) (.cons (.bin .add (.var 1) (.tup (.cons (.tup .nil) .nil))) (.cons (.bin .add (.tup (.cons (.lit (.str ("at  most" : Str))) .nil)) (.slc (.var 1) (.so (.lit (.int (1)))) .no)) (.cons (.bi .list (.cons (.var 1) .nil)) .nil))))) [x0, some (.tup X), x2, x3, some (.int ((1 + n : Nat) : Int)), x5] h = .ok (.obj (h.length + 1)) (h ++ [O.lst X] ++ [O.lst (odd7 X h.length)]) := by
    simp only [e_lst, es_cons, es_nil, e_slc, eo_no, eo_so, e_var, getV_eq, List.getElem?_cons_succ, List.getElem?_cons_zero, Ev.R.bind_ok, e_lit, sl, e_bin, e_tup, List.length_nil, List.length_cons, sz_val]
    simp [add X [.tup []] _ (by simp; omega), add [.str ("at  most" : Str)] (cutD X (some 1) none) _ (by simp; omega), l0, odd7]
  rw [e_idx, s1]
  simp only [Ev.R.bind_ok, e_bin, e_var, getV_eq, List.getElem?_cons_succ, List.getElem?_cons_zero, e_lit, bin_sub_int, en, ix_int, g, Option.bind_some, ex]
theorem s_bent {k q : Nat} (p : PurseAt h q) : Ok (callF K67.P 100 (k + 2) 34 [.obj q, claimD es rows es' rows'] h) fun d h' => Rej h' d ∧ PurseAt h' q ∧ Kp q h h' := by
  have hq := p.lt
  refine call_ok (fd := f_law_bent) rfl rfl ?_
  rw [bent_ent, show claimD es rows es' rows' = .tup (X5 es rows es' rows') from rfl]
  unfold f_law_bent
  simp only []
  rw [xs_cons, ok_bind, x_par, ok_bind, es_cons, ok_bind, e_bin, ok_bind, e_lit, ok_ok, ok_bind]
  refine e_draw (m := 4) (by simp) p (by decide) fun i h1 a0 a1 p1 l1 k1 => ?_
  obtain ⟨n, rfl⟩ := Int.eq_ofNat_of_zero_le a0
  have hn : n < 4 := by omega
  have en : (1 : Int) + (n : Int) = ((1 + n : Nat) : Int) := by omega
  rw [bin_add_int, ok_ok, ok_bind, es_cons, ok_bind]
  refine e_draw (m := 8) (by simp) p1 (by decide) fun j h2 j0 j1 p2 l2 k2 => ?_
  have k02 := k1.trans k2
  simp only [es_nil, Ev.R.bind_ok, ok_bind, ok_ok, List.length_cons, List.length_nil, if_true, setAll, List.set_cons_succ, List.set_cons_zero, en]
  rw [xs_cons, ok_bind, x_asg, ok_bind, show evE (callF K67.P 100 (k + 1)) (.ife (.cmp .inn (.var 4) (.lst (.cons (.lit (.int (2))) (.cons (.lit (.int (4))) .nil)))) (.tup (.cons (.tup (.cons (.lit (.int (1))) (.cons (.lit (.int (2))) .nil))) .nil)) (.lit (.bl true))) [some (.obj q), some (.tup (X5 es rows es' rows')), none, none, some (.int ((1 + n : Nat) : Int)), some (.int j)] h2 = .ok (lastAt n) (h2 ++ [O.lst [.int 2, .int 4]]) from last_e hn, ok_ok]
  have pre3 : h2 <+: h2 ++ [O.lst [.int 2, .int 4]] := List.prefix_append _ _
  have l3 : h2.length ≤ (h2 ++ [O.lst [.int 2, .int 4]]).length := pre3.length_le
  generalize h2 ++ [O.lst [.int 2, .int 4]] = h3 at pre3 l3 ⊢
  simp only [as_nm, Ev.R.bind_ok, ok_ok, List.set_cons_succ, List.set_cons_zero]
  rw [xs_cons, ok_bind, x_asg, ok_bind, show evE (callF K67.P 100 (k + 1)) (.lst (.cons (.lit .non) (.cons (.lit (.int (0))) (.cons (.bi .list (.cons (.idx (.var 1) (.var 4)) .nil)) (.cons (.lit (.str ("" : Str))) (.cons (.tup (.cons (.lit .non) .nil)) (.cons (.tup (.cons (.tup (.cons (.lit (.int (1))) (.cons (.lit (.int (2))) .nil))) .nil)) (.cons (.bin .add (.idx (.var 1) (.var 4)) (.tup (.cons (.var 2) .nil))) .nil)))))))) [some (.obj q), some (.tup (X5 es rows es' rows')), some (lastAt n), none, some (.int ((1 + n : Nat) : Int)), some (.int j)] h3 = .ok (.obj (h3.length + 1)) (h3 ++ [O.lst (partAt es rows es' rows' n)] ++ [O.lst (oddB (partAt es rows es' rows' n) h3.length (lastAt n))]) from odd_e R R' hn, ok_ok]
  simp only [as_nm, Ev.R.bind_ok, ok_ok, List.set_cons_succ, List.set_cons_zero]
  have pre5 : h3 <+: h3 ++ [O.lst (partAt es rows es' rows' n)] ++ [O.lst (oddB (partAt es rows es' rows' n) h3.length (lastAt n))] := by rw [List.append_assoc]; exact List.prefix_append _ _
  have g1 : (h3 ++ [O.lst (partAt es rows es' rows' n)] ++ [O.lst (oddB (partAt es rows es' rows' n) h3.length (lastAt n))])[h3.length]? = some (.lst (partAt es rows es' rows' n)) := by simp
  have g2 : (h3 ++ [O.lst (partAt es rows es' rows' n)] ++ [O.lst (oddB (partAt es rows es' rows' n) h3.length (lastAt n))])[h3.length + 1]? = some (.lst (oddB (partAt es rows es' rows' n) h3.length (lastAt n))) := by simp
  generalize h3 ++ [O.lst (partAt es rows es' rows' n)] ++ [O.lst (oddB (partAt es rows es' rows' n) h3.length (lastAt n))] = h5 at pre5 g1 g2 ⊢
  have l5 := pre5.length_le
  have p5 := (p2.push pre3).push pre5
  have k05 : Kp q h h5 := (k02.trans (.pre pre3)).trans (.pre pre5)
  rw [xs_cons, ok_bind, x_ite, ok_bind]
  simp only [e_cmp, e_var, getV_eq, List.getElem?_cons_succ, List.getElem?_cons_zero, Ev.R.bind_ok, e_lit, cmp_eq_int, b01_some, ok_ok]
  by_cases cj : j = 7
  · simp only [cj, decide_true]
    obtain ⟨x, hx, ex⟩ := sev_e (cf := callF K67.P 100 (k + 1)) (h := h5) (x0 := some (.obj q)) (x2 := some (lastAt n)) (x3 := some (.obj (h3.length + 1))) (x5 := some (.int 7)) R R' hn
    have pre7 : h5 <+: h5 ++ [O.lst (X5 es rows es' rows')] ++ [O.lst (odd7 (X5 es rows es' rows') h5.length)] := by rw [List.append_assoc]; exact List.prefix_append _ _
    have g7 : (h5 ++ [O.lst (X5 es rows es' rows')] ++ [O.lst (odd7 (X5 es rows es' rows') h5.length)])[h5.length]? = some (.lst (X5 es rows es' rows')) := by simp
    generalize h5 ++ [O.lst (X5 es rows es' rows')] ++ [O.lst (odd7 (X5 es rows es' rows') h5.length)] = h7 at pre7 g7 ex ⊢
    unfold sevE at ex
    rw [xs_cons, ok_bind, x_ret, ok_bind, ex, ok_ok, ok_ok]
    simp only [ok_ok, Fl.val_rt]
    refine ⟨x, rfl, fin_or (fun lt => ⟨rej_7 R R' hx fun e => ?_, p, .refl⟩) ⟨rej_7 R R' hx fun _ => g7, p5.push pre7, k05.trans (.pre pre7)⟩⟩
    subst e
    simp [D.lt] at lt
    omega
  · simp only [cj, decide_false]
    rw [xs_nil, ok_ok]
    simp only []
    have hx' := atI_mem (L := oddB (partAt es rows es' rows' n) h3.length (lastAt n)) j0 (by simp [oddB]; omega)
    obtain ⟨x, hx, ex⟩ := hx'
    have add : ∀ (x y : List D) (h : Hh), x.length + y.length ≤ 100 → binop .add (.tup x) (.tup y) h = .ok (.tup (x ++ y)) h := fun x y h l => by
      simp only [binop, sz_val]
      rw [if_pos (by omega)]
    have sl : ∀ (lo hi : Option Int) (h : Hh), slop h (.tup (X5 es rows es' rows')) lo hi = .ok (.tup (cutD (X5 es rows es' rows') lo hi)) h := fun _ _ _ => rfl
    have c1 : (cutD (X5 es rows es' rows') none (some ((1 + n : Nat) : Int))).length ≤ 5 := cut_len
    have c2 : (cutD (X5 es rows es' rows') (some (((1 + n : Nat) : Int) + 1)) none).length ≤ 5 := cut_len
    rw [xs_cons, ok_bind, x_ret]
    simp only [e_bin, e_slc, eo_no, eo_so, e_var, getV_eq, List.getElem?_cons_succ, List.getElem?_cons_zero, Ev.R.bind_ok, sl, e_tup, es_cons, es_nil, e_idx, ix_int, items_obj g2, Option.bind_some, ex, List.length_cons, List.length_nil, sz_val, e_lit, bin_add_int]
    rw [if_pos (by decide)]
    simp only [Ev.R.bind_ok, add (cutD (X5 es rows es' rows') none (some ((1 + n : Nat) : Int))) [x] _ (by simp only [List.length_cons, List.length_nil]; omega), add (cutD (X5 es rows es' rows') none (some ((1 + n : Nat) : Int)) ++ [x]) (cutD (X5 es rows es' rows') (some (((1 + n : Nat) : Int) + 1)) none) _ (by simp only [List.length_append, List.length_cons, List.length_nil]; omega), ok_ok, Fl.val_rt]
    refine ⟨_, rfl, fin_or (fun lt => ⟨rej_odd R R' hn hx fun e => ?_, p, .refl⟩) ⟨rej_odd R R' hn hx fun _ => g1, p5, k05⟩⟩
    subst e
    have lt : D.lts h.length (cutD (X5 es rows es' rows') none (some ((1 + n : Nat) : Int)) ++ [.obj h3.length] ++ cutD (X5 es rows es' rows') (some (((1 + n : Nat) : Int) + 1)) none) = true := lt
    have := lts_to lt (.obj h3.length) (by simp)
    simp [D.lt] at this
    omega
end
end K67

set_option Elab.async false
set_option linter.all false
set_option maxRecDepth 100000
set_option maxHeartbeats 4000000
namespace K67
open PySem Ev

theorem ty_pre {h h' : Hh} {c : D} (hp : h <+: h') (e : (tyName h c).isSome = true) : (tyName h' c).isSome = true := by
  cases c with
  | obj n =>
    simp only [tyName] at e ⊢
    split at e
    · rename_i xs hx
      rw [Pre.get hp hx]
      rfl
    · cases e
  | _ => rfl
theorem Pairs.swap {q : Nat} {h : Hh} {m m' : Nat} {es es' : List Int} {rows rows' : List (List Int)} (P : Pairs q h m m' es rows es' rows') : Pairs q h m' m es' rows' es rows := ⟨P.two, P.one, P.r2, P.r1⟩
section
variable {k q m m' : Nat} {es es' : List Int} {rows rows' : List (List Int)} {h : Hh} {c : D}
theorem claim_shows (R : Rows es rows) (R' : Rows es' rows') : Shows h (claimD es rows es' rows') := shows_parts (xs := X5 es rows es' rows') (by simp [X5]) (prt_x5 R R')
theorem asked_good (P : Pairs q h m m' es rows es' rows') (cc : CertOk h c) : callF K67.P 100 (k + 9) 20 [claimD es rows es' rows', c, .bl (certL es rows es' rows' c)] h = .ok (.bl true) h := by
  have lp := lcm_rows (a := rows.length) (b := rows'.length) ⟨P.r1.pos, P.r1.few⟩ ⟨P.r2.pos, P.r2.few⟩
  have := s_asked (k := k) (h := h) (due := certL es rows es' rows' c) (claim_shows P.r1 P.r2) cc.sh fun h' hp => s_accepts (s_at_most (k := k) (h := h') (x0 := .str kw) P.r1.good.1 P.r2.good.1 P.r1.good.2 P.r2.good.2 (by simp only [List.length_map]; omega) (ty_pre hp cc.ty) cc.lt cc.len)
  rw [cert_eq P.r1 P.r2] at this
  rw [this]
  simp
theorem holds_good (P : Pairs q h m m' es rows es' rows') (cc : CertOk h c) : callF K67.P 100 (k + 4) 28 [.obj m, .obj m', c] h = .ok (.bl (certL es rows es' rows' c)) h :=
  s_holds P.r1 P.r2 P.one.pair P.two.pair cc.ty fun xs e x hx => tyName_lt (cc.lt xs e x hx)
theorem asked_rej {d : D} (r : Rej h d) (cc : CertOk h c) : callF K67.P 100 (k + 9) 20 [d, c, .bl false] h = .ok (.bl true) h :=
  s_asked (k := k) (b := false) (due := false) r.sh cc.sh fun h' hp => r.no c k h' hp
theorem paper_cert {per : Int} {xs : List Int} (pp : Paper per xs) (hper : 1 ≤ per ∧ per ≤ 30) (h : Hh) : CertOk h (.tup (xs.map .int)) := by
  have := pp.len
  refine cert_tup (by simp; omega) fun x hx => ?_
  obtain ⟨i, hi, rfl⟩ := List.mem_map.mp hx
  have := pp.bd i hi
  exact sh_int (by omega)
theorem right_ent {a : D} : ent f_law_right [a] = [some a, none, none, none, none, none, none, none] := rfl
def bodyL : Ss := (.cons (.asg (.nm 7) (.call 30 (.cons (.var 0) (.cons (.var 3) (.cons (.var 4) (.cons (.var 6) .nil))))))
      (.cons (.ite (.not (.call 20 (.cons (.var 5) (.cons (.var 7) (.cons (.call 28 (.cons (.var 3) (.cons (.var 4) (.cons (.var 7) .nil)))) .nil))))) (.cons (.ret (.lit (.bl false)))
      .nil) .nil)
      (.cons (.ite (.not (.call 20 (.cons (.call 34 (.cons (.var 0) (.cons (.var 5) .nil))) (.cons (.var 6) (.cons (.lit (.bl false)) .nil))))) (.cons (.ret (.lit (.bl false)))
      .nil) .nil)
      .nil)))
theorem turnL {xs : List Int} {x1 x2 x7 : Option D} (p : PurseAt h q) (P : Pairs q h m m' es rows es' rows') (pp : Paper (lcmI rows.length rows'.length) xs) :
    Ok (exSs (callF K67.P 100 (k + 9)) 100 bodyL [some (.obj q), x1, x2, some (.obj m), some (.obj m'), some (claimD es rows es' rows'), some (.tup (xs.map .int)), x7] h) fun fl h' => ∃ z, fl = .nx [some (.obj q), x1, x2, some (.obj m), some (.obj m'), some (claimD es rows es' rows'), some (.tup (xs.map .int)), z] ∧ PurseAt h' q ∧ Kp q h h' := by
  have lp := lcm_rows (a := rows.length) (b := rows'.length) ⟨P.r1.pos, P.r1.few⟩ ⟨P.r2.pos, P.r2.few⟩
  unfold bodyL
  rw [xs_cons, ok_bind, x_asg, ok_bind, e_call]
  simp only [es_cons, es_nil, e_var, getV_eq, List.getElem?_cons_succ, List.getElem?_cons_zero, Ev.R.bind_ok]
  refine (s_bent_paper (k := k + 7) (a := .obj m) (b := .obj m') p pp lp).imp ?_
  rintro c h1 ⟨cc, p1, k1⟩
  have P1 := P.kp k1
  have g1 := holds_good (k := k + 5) P1 cc
  have a1 := asked_good (k := k) P1 cc
  simp only [as_nm, Ev.R.bind_ok, ok_ok, List.set_cons_succ, List.set_cons_zero]
  rw [xs_cons, ok_bind]
  simp only [x_ite, e_not, e_call, es_cons, es_nil, e_var, getV_eq, List.getElem?_cons_succ, List.getElem?_cons_zero, Ev.R.bind_ok, g1, a1, Bool.not_true, xs_nil, ok_ok]
  rw [xs_cons, ok_bind, x_ite, ok_bind, e_not, ok_bind, e_call, ok_bind, es_cons, ok_bind, e_call]
  simp only [es_cons, es_nil, e_var, getV_eq, List.getElem?_cons_succ, List.getElem?_cons_zero, Ev.R.bind_ok]
  refine (s_bent (k := k + 7) P1.r1 P1.r2 p1).imp ?_
  rintro d h2 ⟨rj, p2, k2⟩
  have a2 := asked_rej (k := k) rj (paper_cert pp lp h2)
  simp only [e_lit, Ev.R.bind_ok, ok_ok, a2, Bool.not_true, xs_nil]
  exact ⟨_, rfl, p2, k1.trans k2⟩
theorem s_right (p : PurseAt h q) : Ok (callF K67.P 100 (k + 10) 35 [.obj q] h) fun d _ => d = .bl true := by
  refine call_ok (fd := f_law_right) rfl rfl ?_
  rw [right_ent]
  unfold f_law_right
  simp only []
  rw [xs_cons, ok_bind, x_asg, ok_bind, e_call]
  simp only [es_cons, es_nil, e_var, getV_eq, List.getElem?_cons_succ, List.getElem?_cons_zero, Ev.R.bind_ok]
  refine (s_pair (k := k + 6) p).imp ?_
  rintro d h1 ⟨z, m, m', es, rows, es', rows', rfl, hz, P, p1, k1⟩
  have lp := lcm_rows (a := rows.length) (b := rows'.length) ⟨P.r1.pos, P.r1.few⟩ ⟨P.r2.pos, P.r2.few⟩
  simp only [as_tp, items_obj hz, ats_cons, ats_nil, as_nm, Ev.R.bind_ok, ok_ok, List.set_cons_succ, List.set_cons_zero]
  rw [xs_cons, ok_bind, x_par, ok_bind]
  have pr := s_promise (k := k + 6) (h := h1) P.r1 P.r2 P.one.pair P.two.pair
  simp only [es_cons, es_nil, e_call, e_var, getV_eq, List.getElem?_cons_succ, List.getElem?_cons_zero, Ev.R.bind_ok, pr]
  rw [ok_bind, ok_bind]
  refine (s_paper (k := k + 5) p1 P).imp ?_
  rintro d h2 ⟨xs, rfl, pp, p2, k2⟩
  have P2 := P.kp k2
  have cc := paper_cert pp lp h2
  have g2 := holds_good (k := k + 5) P2 cc
  have a2 := asked_good (k := k) P2 cc
  simp only [Ev.R.bind_ok, ok_ok, List.length_cons, List.length_nil, if_true, setAll, List.set_cons_succ, List.set_cons_zero]
  rw [xs_cons, ok_bind]
  simp only [x_ite, e_not, e_call, es_cons, es_nil, e_var, getV_eq, List.getElem?_cons_succ, List.getElem?_cons_zero, Ev.R.bind_ok, g2, a2, Bool.not_true, xs_nil, ok_ok]
  rw [xs_cons, ok_bind, x_loop, ok_bind]
  rw [show evI (callF K67.P 100 (k + 9)) (.rng (.cons (.lit (.int (6))) .nil)) [some (.obj q), none, none, some (.obj m), some (.obj m'), some (claimD es rows es' rows'), some (.tup (xs.map .int)), none] h2 = .ok (rangeD 0 1 6, []) h2 by simp [show rngop [.int 6] = some (rangeD 0 1 6) from rng_1 (n := 6) (by decide)], ok_ok]
  refine loop_ok _ (fun _ σ h' => ∃ (x1 x7 : Option D), PurseAt h' q ∧ Pairs q h' m m' es rows es' rows' ∧ σ = [some (.obj q), x1, none, some (.obj m), some (.obj m'), some (claimD es rows es' rows'), some (.tup (xs.map .int)), x7]) _ _ ⟨none, none, p2, P2, rfl⟩ (fun _ _ _ _ => rfl) ?_ ?_
  · rintro x ys σ h' ⟨x1, x7, pq, PP, rfl⟩
    simp only [as_nm, Ev.R.bind_ok, List.set_cons_succ, List.set_cons_zero]
    refine (turnL (k := k) pq PP pp).imp ?_
    rintro fl h3 ⟨z, rfl, p3, k3⟩
    exact ⟨_, z, p3, PP.kp k3, rfl⟩
  · rintro σ h3 ⟨x1, x7, p3, P3, rfl⟩
    simp only []
    rw [xs_cons, ok_bind, x_asg, ok_bind, e_call]
    simp only [es_cons, es_nil, e_var, getV_eq, List.getElem?_cons_succ, List.getElem?_cons_zero, Ev.R.bind_ok]
    have S3 := P3.swap
    refine (s_paper (k := k + 5) p3 S3).imp ?_
    rintro d h4 ⟨ws, rfl, pw, p4, k4⟩
    have S4 := S3.kp k4
    have lp' := lcm_rows (a := rows'.length) (b := rows.length) ⟨P.r2.pos, P.r2.few⟩ ⟨P.r1.pos, P.r1.few⟩
    have c4 := paper_cert pw lp' h4
    have g4 := holds_good (k := k + 5) S4 c4
    have a4 := asked_good (k := k) S4 c4
    have r4 := s_promise (k := k + 6) (h := h4) S4.r1 S4.r2 S4.one.pair S4.two.pair
    simp only [as_nm, Ev.R.bind_ok, ok_ok, List.set_cons_succ, List.set_cons_zero]
    rw [xs_cons, ok_bind]
    simp only [x_ret, e_call, es_cons, es_nil, e_var, getV_eq, List.getElem?_cons_succ, List.getElem?_cons_zero, Ev.R.bind_ok, r4, g4, a4, ok_ok, Fl.val_rt]
    exact ⟨_, rfl, fin_or (fun _ => rfl) rfl⟩
end
theorem law_ent {a : D} : ent p_law [a] = [some a, none] := rfl
theorem s_law {k : Nat} {h : Hh} {ns : List Int} (hn : ns.length ≤ 63) : Ok (callF K67.P 100 (k + 11) 36 [.rol (ns.map .int)] h) fun d _ => d = .bl true := by
  refine call_ok (fd := p_law) rfl rfl ?_
  rw [law_ent]
  unfold p_law
  simp only []
  have ln : biop .len [.rol (ns.map .int)] h = .ok (.int ns.length) h := by
    show R.ok (D.int ((ns.map D.int).length : Nat)) h = _
    rw [List.length_map]
  have rg : ∃ n : Nat, n ≤ 3 ∧ evI (callF K67.P 100 (k + 10)) (.rng (.cons (.bi .max (.cons (.lit (.int (2))) (.cons (.bi .min (.cons (.bi .len (.cons (.var 0) .nil)) (.cons (.lit (.int (3))) .nil))) .nil))) .nil)) [some (.rol (ns.map .int)), none] h = .ok ((List.range' 0 n).map fun i => .int (i : Nat), []) h := by
    have mn : ∀ (i j : Int), biop .min [.int i, .int j] h = .ok (.int (if j < i then j else i)) h := fun _ _ => rfl
    have mx : ∀ (i j : Int), biop .max [.int i, .int j] h = .ok (.int (if j > i then j else i)) h := fun _ _ => rfl
    have fin : ∀ n : Nat, n ≤ 3 → rngop [.int (n : Int)] = some ((List.range' 0 n).map fun i => .int (i : Nat)) := fun n l => by
      rw [rng_1 (n := n) (by omega)]
      have q0 := rangeD_from 0 n
      simp only [Int.natCast_zero] at q0
      rw [q0]
    by_cases c : (3 : Int) < (ns.length : Int)
    · refine ⟨3, by omega, ?_⟩
      have f := fin 3 (by omega)
      simp only [i_rng, es_cons, es_nil, e_bi, e_lit, e_var, getV_eq, List.getElem?_cons_succ, List.getElem?_cons_zero, Ev.R.bind_ok, ln, mn, mx, if_pos c]
      rw [if_pos (by decide)]
      simp only [show rngop [.int 3] = some ((List.range' 0 3).map fun i => .int (i : Nat)) from f]
    · by_cases c2 : (ns.length : Int) > 2
      · refine ⟨ns.length, by omega, ?_⟩
        have f := fin ns.length (by omega)
        simp only [i_rng, es_cons, es_nil, e_bi, e_lit, e_var, getV_eq, List.getElem?_cons_succ, List.getElem?_cons_zero, Ev.R.bind_ok, ln, mn, mx, if_neg c, if_pos c2, f]
      · refine ⟨2, by omega, ?_⟩
        have f := fin 2 (by omega)
        simp only [i_rng, es_cons, es_nil, e_bi, e_lit, e_var, getV_eq, List.getElem?_cons_succ, List.getElem?_cons_zero, Ev.R.bind_ok, ln, mn, mx, if_neg c, if_neg c2]
        simp only [show rngop [.int 2] = some ((List.range' 0 2).map fun i => .int (i : Nat)) from f]
  obtain ⟨n, hn3, er⟩ := rg
  rw [xs_cons, ok_bind, x_loop, ok_bind, er, ok_ok]
  refine loop_ok _ (fun ys σ _ => ∃ (j c : Nat) (y : Option D), j + c = n ∧ ys = (List.range' j c).map (fun i => D.int (i : Nat)) ∧ σ = [some (.rol (ns.map .int)), y]) _ _ ⟨0, n, none, by omega, rfl, rfl⟩ (fun _ _ _ _ => rfl) ?_ ?_
  · rintro x ys σ h' ⟨j, c, y, hj, e, rfl⟩
    cases c with
    | zero => cases e
    | succ c =>
      rw [List.range'_succ, List.map_cons] at e
      injection e with e1 e2
      subst e1
      simp only [as_nm, Ev.R.bind_ok, List.set_cons_succ, List.set_cons_zero]
      rw [xs_cons, ok_bind, x_ite, ok_bind, e_not, ok_bind, e_call, ok_bind, es_cons, ok_bind, e_call]
      simp only [es_cons, es_nil, e_var, getV_eq, List.getElem?_cons_succ, List.getElem?_cons_zero, Ev.R.bind_ok]
      refine (s_purse (k := k + 9) (h := h') (i := j) hn (by omega)).imp ?_
      rintro d h2 ⟨q, rfl, _, _, p2⟩
      simp only [Ev.R.bind_ok, ok_ok]
      refine (s_right (k := k) p2).imp ?_
      rintro d h3 rfl
      simp only [Bool.not_true, ok_ok, xs_nil]
      exact ⟨j + 1, c, _, by omega, e2, rfl⟩
  · rintro σ h' ⟨j, c, y, hj, e, rfl⟩
    simp only []
    rw [xs_cons, ok_bind]
    simp only [x_ret, e_lit, Ev.R.bind_ok, ok_ok, Fl.val_rt]
    exact ⟨_, rfl, fin_or (fun _ => rfl) rfl⟩
end K67

set_option Elab.async false
set_option linter.all false
set_option maxRecDepth 100000
set_option maxHeartbeats 4000000
namespace K67
open PySem PySem.Spec PyProof.Rows L2 Ev

def wB : Nat := 100
theorem funD_inj {K : PySem.W.Frag} {x qual x' qual' : Str} {params params' : Arguments} {body body' : List Stmt} {scope scope' : Scope} {dvs dvs' : List V} {kws kws' : List (Str × V)} {f : Addr} {fd fd' : FuncData} (F : FunD K x qual params body scope dvs kws f fd) (F' : FunD K x' qual' params' body' scope' dvs' kws' f fd') : fd = fd' := by
  obtain ⟨_, _, _, _, _, _, _, _, _, _, _, lk, _⟩ := F.ex
  obtain ⟨_, _, _, _, _, _, _, _, _, _, _, lk', _⟩ := F'.ex
  rw [lk] at lk'
  injection lk' with lk'
  injection lk' with _ _ lk'
  injection lk'
theorem promise0 {K : PySem.W.Frag} {H : Hp} {a : Addr} {ns : List Int} (hl : ns.length ≤ 63) (hO : Only H) (hS : SqL K H a (ns.map V.int)) : spF K (callF P 100 11 36) 1 [.ref a] H fun v _ => v = .bl true := by
  have ro : RoL K H a (ns.map V.int) := by
    rcases hS with hS | hS
    · rcases hO a with q | ⟨o, xs, q⟩
      · rcases hS with e | ⟨o, e⟩
        · rw [q] at e; cases e
        · rw [q] at e; cases e
      · rcases hS with e | ⟨o, e⟩
        · rw [q] at e; cases e
        · exact .inl ⟨o, e⟩
    · exact .inr hS
  have rs : Reps K [] H (ns.map .int) (ns.map V.int) := by
    clear hl ro hS
    induction ns with
    | nil => rfl
    | cons n ns ih => exact ⟨_, _, rfl, rfl, ih⟩
  obtain ⟨d, h', e, rfl⟩ := (s_law (k := 0) (h := []) hl).ex
  exact ⟨rfl, [], [], [.rol (ns.map .int)], ⟨rfl, fun n a o e => by simp at e, fun n m a e => by simp at e⟩, ⟨_, _, rfl, ⟨a, _, rfl, ro, rs⟩, rfl⟩, _, _, e, fun ρ' H' _ _ v rv => rv⟩
end K67

set_option Elab.async false
set_option linter.all false
set_option maxRecDepth 100000
set_option maxHeartbeats 0
namespace K67
open PySem PySem.Spec PyProof.Rows L2 Ev
open HK67 (top fn fa dp_is_integer dp_is_between dp_common_divisor dp_common_multiple dp_is_fraction dp_is_form dp_over_one dp_bottom_of dp_quotient dp_place_of dp_tells_integers dp_shortest dp_told_at dp_is_told dp_quotient_is dp_stays_at_most dp_at_most_shown dp_accepts df_law_purse df_law_draw df_law_asked df_law_lowest df_law_sixths df_law_form_of df_law_told df_law_period df_law_starts_well df_law_start_holds df_law_holds df_law_paper df_law_bent_paper df_law_rows df_law_pair df_law_promise df_law_bent df_law_right dp_law)
/-! ### the text -/
def ep_is_integer : FnE := ⟨top 21, "is_integer", (["value"] : List Str), ((["value"] : List Str)), p_is_integer⟩
def ep_is_between : FnE := ⟨top 22, "is_between", (["value", "low", "high"] : List Str), ((["value", "low", "high"] : List Str)), p_is_between⟩
def ep_common_divisor : FnE := ⟨top 25, "common_divisor", (["one", "other"] : List Str), ((["one", "other"] : List Str)), p_common_divisor⟩
def ep_common_multiple : FnE := ⟨top 26, "common_multiple", (["one", "other"] : List Str), ((["one", "other"] : List Str)), p_common_multiple⟩
def ep_is_fraction : FnE := ⟨top 27, "is_fraction", (["value"] : List Str), ((["value"] : List Str)), p_is_fraction⟩
def ep_is_form : FnE := ⟨top 86, "is_form", (["value"] : List Str), ((["value", "part"] : List Str)), p_is_form⟩
def ep_over_one : FnE := ⟨top 87, "over_one", (["form", "bottom"] : List Str), ((["form", "bottom", "top", "low"] : List Str)), p_over_one⟩
def ep_bottom_of : FnE := ⟨top 88, "bottom_of", (["form"] : List Str), ((["form", "found", "top", "low"] : List Str)), p_bottom_of⟩
def ep_quotient : FnE := ⟨top 89, "quotient", (["form", "place"] : List Str), ((["form", "place", "part", "bottom", "power", "top"] : List Str)), p_quotient⟩
def ep_place_of : FnE := ⟨top 90, "place_of", (["first", "rest", "period"] : List Str), ((["first", "rest", "period", "place"] : List Str)), p_place_of⟩
def ep_tells_integers : FnE := ⟨top 91, "tells_integers", (["form", "first", "period"] : List Str), ((["form", "first", "period", "step", "top", "bottom"] : List Str)), p_tells_integers⟩
def ep_shortest : FnE := ⟨top 92, "shortest", (["forms"] : List Str), ((["forms", "many", "size"] : List Str)), p_shortest⟩
def ep_told_at : FnE := ⟨top 93, "told_at", (["early", "forms", "place"] : List Str), ((["early", "forms", "place", "top", "bottom"] : List Str)), p_told_at⟩
def ep_is_told : FnE := ⟨top 94, "is_told", (["early", "forms"] : List Str), ((["early", "forms", "last", "rest", "form", "number"] : List Str)), p_is_told⟩
def ep_quotient_is : FnE := ⟨top 95, "quotient_is", (["form", "place", "number"] : List Str), ((["form", "place", "number", "top", "bottom"] : List Str)), p_quotient_is⟩
def ep_stays_at_most : FnE := ⟨top 96, "stays_at_most", (["one", "other", "first", "step"] : List Str), ((["one", "other", "first", "step", "most", "bottom", "found", "mine", "theirs", "less", "more", "moved"] : List Str) ++ (["at", "part"] : List Str)), p_stays_at_most⟩
def ep_at_most_shown : FnE := ⟨top 104, "at_most_shown", (["claim", "certificate"] : List Str), ((["claim", "certificate", "early", "forms", "others", "patterns", "period", "most", "rest", "first", "place"] : List Str)), p_at_most_shown⟩
def ep_accepts : FnE := ⟨top 105, "accepts", (["claim", "certificate"] : List Str), ((["claim", "certificate"] : List Str)), p_accepts⟩
def ef_law_purse : FnE := ⟨top 107, "_law_purse", (["_law_script", "_law_at"] : List Str), ((["_law_script", "_law_at", "_law_digits", "_law_state", "_law_cell", "_law_last"] : List Str)), f_law_purse⟩
def ef_law_draw : FnE := ⟨top 108, "_law_draw", (["_law_purse_here", "_law_many"] : List Str), ((["_law_purse_here", "_law_many", "_law_state", "_law_digit"] : List Str)), f_law_draw⟩
def ef_law_asked : FnE := ⟨top 109, "_law_asked", (["_law_promise_here", "_law_paper_here", "_law_due"] : List Str), ((["_law_promise_here", "_law_paper_here", "_law_due", "_law_before", "_law_told_here"] : List Str)), f_law_asked⟩
def ef_law_lowest : FnE := ⟨top 110, "_law_lowest", (["_law_top", "_law_bottom"] : List Str), ((["_law_top", "_law_bottom", "_law_one_here", "_law_two_here"] : List Str)), f_law_lowest⟩
def ef_law_sixths : FnE := ⟨top 111, "_law_sixths", (["_law_parts"] : List Str), ((["_law_parts"] : List Str)), f_law_sixths⟩
def ef_law_form_of : FnE := ⟨top 112, "_law_form_of", (["_law_parts"] : List Str), ((["_law_parts", "_law_rows_here", "_law_top"] : List Str)), f_law_form_of⟩
def ef_law_told : FnE := ⟨top 113, "_law_told", (["_law_lead", "_law_sums", "_law_n"] : List Str), ((["_law_lead", "_law_sums", "_law_n", "_law_ways", "_law_part", "_law_way"] : List Str)), f_law_told⟩
def ef_law_period : FnE := ⟨top 114, "_law_period", (["_law_mine", "_law_theirs"] : List Str), ((["_law_mine", "_law_theirs", "_law_n"] : List Str)), f_law_period⟩
def ef_law_starts_well : FnE := ⟨top 115, "_law_starts_well", (["_law_mine", "_law_theirs", "_law_first", "_law_period_here"] : List Str), ((["_law_mine", "_law_theirs", "_law_first", "_law_period_here", "_law_less", "_law_more", "_law_found", "_law_at", "_law_again", "_law_power", "_law_part"] : List Str)), f_law_starts_well⟩
def ef_law_start_holds : FnE := ⟨top 116, "_law_start_holds", (["_law_mine", "_law_theirs", "_law_rest", "_law_first", "_law_period_here"] : List Str), ((["_law_mine", "_law_theirs", "_law_rest", "_law_first", "_law_period_here", "_law_early_here", "_law_n"] : List Str)), f_law_start_holds⟩
def ef_law_holds : FnE := ⟨top 117, "_law_holds", (["_law_mine", "_law_theirs", "_law_paper_here"] : List Str), ((["_law_mine", "_law_theirs", "_law_paper_here", "_law_period_here", "_law_rest"] : List Str)), f_law_holds⟩
def ef_law_paper : FnE := ⟨top 118, "_law_paper", (["_law_purse_here", "_law_mine", "_law_theirs"] : List Str), ((["_law_purse_here", "_law_mine", "_law_theirs", "_law_rest", "_law_period_here", "_law_found", "_law_some", "_law_n"] : List Str)), f_law_paper⟩
def ef_law_bent_paper : FnE := ⟨top 119, "_law_bent_paper", (["_law_purse_here", "_law_mine", "_law_theirs", "_law_paper_here"] : List Str), ((["_law_purse_here", "_law_mine", "_law_theirs", "_law_paper_here", "_law_some", "_law_at", "_law_way", "_law_period_here", "_law_old", "_law_top"] : List Str)), f_law_bent_paper⟩
def ef_law_rows : FnE := ⟨top 120, "_law_rows", (["_law_purse_here", "_law_many"] : List Str), ((["_law_purse_here", "_law_many", "_law_found", "_law_turn", "_law_row"] : List Str)), f_law_rows⟩
def ef_law_pair : FnE := ⟨top 121, "_law_pair", (["_law_purse_here"] : List Str), ((["_law_purse_here", "_law_sums", "_law_lead", "_law_twice", "_law_more", "_law_again", "_law_turn", "_law_row", "_law_part", "_law_value"] : List Str)), f_law_pair⟩
def ef_law_promise : FnE := ⟨top 122, "_law_promise", (["_law_mine", "_law_theirs"] : List Str), ((["_law_mine", "_law_theirs", "_law_rows_here", "_law_some", "_law_parts"] : List Str)), f_law_promise⟩
def ef_law_bent : FnE := ⟨top 123, "_law_bent", (["_law_purse_here", "_law_promise_here"] : List Str), ((["_law_purse_here", "_law_promise_here", "_law_last", "_law_odd", "_law_at", "_law_pick"] : List Str)), f_law_bent⟩
def ef_law_right : FnE := ⟨top 124, "_law_right", (["_law_purse_here"] : List Str), ((["_law_purse_here", "_law_turn", "_law_turned", "_law_mine", "_law_theirs", "_law_promise_here", "_law_paper_here", "_law_bent_here"] : List Str)), f_law_right⟩
def ep_law : FnE := ⟨top 125, "law", (["_law_script"] : List Str), ((["_law_script", "_law_at"] : List Str)), p_law⟩
def tb : List FnE := [ep_is_integer, ep_is_between, ep_common_divisor, ep_common_multiple, ep_is_fraction, ep_is_form, ep_over_one, ep_bottom_of, ep_quotient, ep_place_of, ep_tells_integers, ep_shortest, ep_told_at, ep_is_told, ep_quotient_is, ep_stays_at_most, ep_at_most_shown, ep_accepts, ef_law_purse, ef_law_draw, ef_law_asked, ef_law_lowest, ef_law_sixths, ef_law_form_of, ef_law_told, ef_law_period, ef_law_starts_well, ef_law_start_holds, ef_law_holds, ef_law_paper, ef_law_bent_paper, ef_law_rows, ef_law_pair, ef_law_promise, ef_law_bent, ef_law_right, ep_law]
def csts : List (Str × D) := [(("MOST_LENGTH" : Str), .int (1000)), (("MOST_DEGREE" : Str), .int (12))]
def kws : List ((Str × List Str) × List Nat) := [((("accepts" : Str), (["certificate", "claim"] : List Str)), [1, 0])]
theorem tb_P : tbOf tb = P := by
  funext i
  show ((tb[i]?).map (·.fd)) = fds[i]?
  rw [← List.getElem?_map]
  rfl
theorem cp_is_integer : (ep_is_integer).chk (glFrom 0 tb csts) kws := ⟨by kernel_rfl, by kernel_rfl, by kernel_rfl, by kernel_rfl⟩
theorem cp_is_between : (ep_is_between).chk (glFrom 0 tb csts) kws := ⟨by kernel_rfl, by kernel_rfl, by kernel_rfl, by kernel_rfl⟩
theorem cp_common_divisor : (ep_common_divisor).chk (glFrom 0 tb csts) kws := ⟨by kernel_rfl, by kernel_rfl, by kernel_rfl, by kernel_rfl⟩
theorem cp_common_multiple : (ep_common_multiple).chk (glFrom 0 tb csts) kws := ⟨by kernel_rfl, by kernel_rfl, by kernel_rfl, by kernel_rfl⟩
theorem cp_is_fraction : (ep_is_fraction).chk (glFrom 0 tb csts) kws := ⟨by kernel_rfl, by kernel_rfl, by kernel_rfl, by kernel_rfl⟩
theorem cp_is_form : (ep_is_form).chk (glFrom 0 tb csts) kws := ⟨by kernel_rfl, by kernel_rfl, by kernel_rfl, by kernel_rfl⟩
theorem cp_over_one : (ep_over_one).chk (glFrom 0 tb csts) kws := ⟨by kernel_rfl, by kernel_rfl, by kernel_rfl, by kernel_rfl⟩
theorem cp_bottom_of : (ep_bottom_of).chk (glFrom 0 tb csts) kws := ⟨by kernel_rfl, by kernel_rfl, by kernel_rfl, by kernel_rfl⟩
theorem cp_quotient : (ep_quotient).chk (glFrom 0 tb csts) kws := ⟨by kernel_rfl, by kernel_rfl, by kernel_rfl, by kernel_rfl⟩
theorem cp_place_of : (ep_place_of).chk (glFrom 0 tb csts) kws := ⟨by kernel_rfl, by kernel_rfl, by kernel_rfl, by kernel_rfl⟩
theorem cp_tells_integers : (ep_tells_integers).chk (glFrom 0 tb csts) kws := ⟨by kernel_rfl, by kernel_rfl, by kernel_rfl, by kernel_rfl⟩
theorem cp_shortest : (ep_shortest).chk (glFrom 0 tb csts) kws := ⟨by kernel_rfl, by kernel_rfl, by kernel_rfl, by kernel_rfl⟩
theorem cp_told_at : (ep_told_at).chk (glFrom 0 tb csts) kws := ⟨by kernel_rfl, by kernel_rfl, by kernel_rfl, by kernel_rfl⟩
theorem cp_is_told : (ep_is_told).chk (glFrom 0 tb csts) kws := ⟨by kernel_rfl, by kernel_rfl, by kernel_rfl, by kernel_rfl⟩
theorem cp_quotient_is : (ep_quotient_is).chk (glFrom 0 tb csts) kws := ⟨by kernel_rfl, by kernel_rfl, by kernel_rfl, by kernel_rfl⟩
theorem cp_stays_at_most : (ep_stays_at_most).chk (glFrom 0 tb csts) kws := ⟨by kernel_rfl, by kernel_rfl, by kernel_rfl, by kernel_rfl⟩
theorem cp_at_most_shown : (ep_at_most_shown).chk (glFrom 0 tb csts) kws := ⟨by kernel_rfl, by kernel_rfl, by kernel_rfl, by kernel_rfl⟩
theorem cp_accepts : (ep_accepts).chk (glFrom 0 tb csts) kws := ⟨by kernel_rfl, by kernel_rfl, by kernel_rfl, by kernel_rfl⟩
theorem cf_law_purse : (ef_law_purse).chk (glFrom 0 tb csts) kws := ⟨by kernel_rfl, by kernel_rfl, by kernel_rfl, by kernel_rfl⟩
theorem cf_law_draw : (ef_law_draw).chk (glFrom 0 tb csts) kws := ⟨by kernel_rfl, by kernel_rfl, by kernel_rfl, by kernel_rfl⟩
theorem cf_law_asked : (ef_law_asked).chk (glFrom 0 tb csts) kws := ⟨by kernel_rfl, by kernel_rfl, by kernel_rfl, by kernel_rfl⟩
theorem cf_law_lowest : (ef_law_lowest).chk (glFrom 0 tb csts) kws := ⟨by kernel_rfl, by kernel_rfl, by kernel_rfl, by kernel_rfl⟩
theorem cf_law_sixths : (ef_law_sixths).chk (glFrom 0 tb csts) kws := ⟨by kernel_rfl, by kernel_rfl, by kernel_rfl, by kernel_rfl⟩
theorem cf_law_form_of : (ef_law_form_of).chk (glFrom 0 tb csts) kws := ⟨by kernel_rfl, by kernel_rfl, by kernel_rfl, by kernel_rfl⟩
theorem cf_law_told : (ef_law_told).chk (glFrom 0 tb csts) kws := ⟨by kernel_rfl, by kernel_rfl, by kernel_rfl, by kernel_rfl⟩
theorem cf_law_period : (ef_law_period).chk (glFrom 0 tb csts) kws := ⟨by kernel_rfl, by kernel_rfl, by kernel_rfl, by kernel_rfl⟩
theorem cf_law_starts_well : (ef_law_starts_well).chk (glFrom 0 tb csts) kws := ⟨by kernel_rfl, by kernel_rfl, by kernel_rfl, by kernel_rfl⟩
theorem cf_law_start_holds : (ef_law_start_holds).chk (glFrom 0 tb csts) kws := ⟨by kernel_rfl, by kernel_rfl, by kernel_rfl, by kernel_rfl⟩
theorem cf_law_holds : (ef_law_holds).chk (glFrom 0 tb csts) kws := ⟨by kernel_rfl, by kernel_rfl, by kernel_rfl, by kernel_rfl⟩
theorem cf_law_paper : (ef_law_paper).chk (glFrom 0 tb csts) kws := ⟨by kernel_rfl, by kernel_rfl, by kernel_rfl, by kernel_rfl⟩
theorem cf_law_bent_paper : (ef_law_bent_paper).chk (glFrom 0 tb csts) kws := ⟨by kernel_rfl, by kernel_rfl, by kernel_rfl, by kernel_rfl⟩
theorem cf_law_rows : (ef_law_rows).chk (glFrom 0 tb csts) kws := ⟨by kernel_rfl, by kernel_rfl, by kernel_rfl, by kernel_rfl⟩
theorem cf_law_pair : (ef_law_pair).chk (glFrom 0 tb csts) kws := ⟨by kernel_rfl, by kernel_rfl, by kernel_rfl, by kernel_rfl⟩
theorem cf_law_promise : (ef_law_promise).chk (glFrom 0 tb csts) kws := ⟨by kernel_rfl, by kernel_rfl, by kernel_rfl, by kernel_rfl⟩
theorem cf_law_bent : (ef_law_bent).chk (glFrom 0 tb csts) kws := ⟨by kernel_rfl, by kernel_rfl, by kernel_rfl, by kernel_rfl⟩
theorem cf_law_right : (ef_law_right).chk (glFrom 0 tb csts) kws := ⟨by kernel_rfl, by kernel_rfl, by kernel_rfl, by kernel_rfl⟩
theorem cp_law : (ep_law).chk (glFrom 0 tb csts) kws := ⟨by kernel_rfl, by kernel_rfl, by kernel_rfl, by kernel_rfl⟩
theorem chk_all : ∀ e ∈ tb, e.chk (glFrom 0 tb csts) kws := by
  intro e he
  simp only [tb, List.mem_cons, List.not_mem_nil, or_false] at he
  rcases he with rfl | rfl | rfl | rfl | rfl | rfl | rfl | rfl | rfl | rfl | rfl | rfl | rfl | rfl | rfl | rfl | rfl | rfl | rfl | rfl | rfl | rfl | rfl | rfl | rfl | rfl | rfl | rfl | rfl | rfl | rfl | rfl | rfl | rfl | rfl | rfl | rfl
  · exact cp_is_integer
  · exact cp_is_between
  · exact cp_common_divisor
  · exact cp_common_multiple
  · exact cp_is_fraction
  · exact cp_is_form
  · exact cp_over_one
  · exact cp_bottom_of
  · exact cp_quotient
  · exact cp_place_of
  · exact cp_tells_integers
  · exact cp_shortest
  · exact cp_told_at
  · exact cp_is_told
  · exact cp_quotient_is
  · exact cp_stays_at_most
  · exact cp_at_most_shown
  · exact cp_accepts
  · exact cf_law_purse
  · exact cf_law_draw
  · exact cf_law_asked
  · exact cf_law_lowest
  · exact cf_law_sixths
  · exact cf_law_form_of
  · exact cf_law_told
  · exact cf_law_period
  · exact cf_law_starts_well
  · exact cf_law_start_holds
  · exact cf_law_holds
  · exact cf_law_paper
  · exact cf_law_bent_paper
  · exact cf_law_rows
  · exact cf_law_pair
  · exact cf_law_promise
  · exact cf_law_bent
  · exact cf_law_right
  · exact cp_law
theorem bp_is_integer : (ep_is_integer).bnd := fun _ _ _ _ _ _ us hl => match us, hl with | [_], _ => rfl
theorem bp_is_between : (ep_is_between).bnd := fun _ _ _ _ _ _ us hl => match us, hl with | [_, _, _], _ => rfl
theorem bp_common_divisor : (ep_common_divisor).bnd := fun _ _ _ _ _ _ us hl => match us, hl with | [_, _], _ => rfl
theorem bp_common_multiple : (ep_common_multiple).bnd := fun _ _ _ _ _ _ us hl => match us, hl with | [_, _], _ => rfl
theorem bp_is_fraction : (ep_is_fraction).bnd := fun _ _ _ _ _ _ us hl => match us, hl with | [_], _ => rfl
theorem bp_is_form : (ep_is_form).bnd := fun _ _ _ _ _ _ us hl => match us, hl with | [_], _ => rfl
theorem bp_over_one : (ep_over_one).bnd := fun _ _ _ _ _ _ us hl => match us, hl with | [_, _], _ => rfl
theorem bp_bottom_of : (ep_bottom_of).bnd := fun _ _ _ _ _ _ us hl => match us, hl with | [_], _ => rfl
theorem bp_quotient : (ep_quotient).bnd := fun _ _ _ _ _ _ us hl => match us, hl with | [_, _], _ => rfl
theorem bp_place_of : (ep_place_of).bnd := fun _ _ _ _ _ _ us hl => match us, hl with | [_, _, _], _ => rfl
theorem bp_tells_integers : (ep_tells_integers).bnd := fun _ _ _ _ _ _ us hl => match us, hl with | [_, _, _], _ => rfl
theorem bp_shortest : (ep_shortest).bnd := fun _ _ _ _ _ _ us hl => match us, hl with | [_], _ => rfl
theorem bp_told_at : (ep_told_at).bnd := fun _ _ _ _ _ _ us hl => match us, hl with | [_, _, _], _ => rfl
theorem bp_is_told : (ep_is_told).bnd := fun _ _ _ _ _ _ us hl => match us, hl with | [_, _], _ => rfl
theorem bp_quotient_is : (ep_quotient_is).bnd := fun _ _ _ _ _ _ us hl => match us, hl with | [_, _, _], _ => rfl
theorem bp_stays_at_most : (ep_stays_at_most).bnd := fun _ _ _ _ _ _ us hl => match us, hl with | [_, _, _, _], _ => rfl
theorem bp_at_most_shown : (ep_at_most_shown).bnd := fun _ _ _ _ _ _ us hl => match us, hl with | [_, _], _ => rfl
theorem bp_accepts : (ep_accepts).bnd := fun _ _ _ _ _ _ us hl => match us, hl with | [_, _], _ => rfl
theorem bf_law_purse : (ef_law_purse).bnd := fun _ _ _ _ _ _ us hl => match us, hl with | [_, _], _ => rfl
theorem bf_law_draw : (ef_law_draw).bnd := fun _ _ _ _ _ _ us hl => match us, hl with | [_, _], _ => rfl
theorem bf_law_asked : (ef_law_asked).bnd := fun _ _ _ _ _ _ us hl => match us, hl with | [_, _, _], _ => rfl
theorem bf_law_lowest : (ef_law_lowest).bnd := fun _ _ _ _ _ _ us hl => match us, hl with | [_, _], _ => rfl
theorem bf_law_sixths : (ef_law_sixths).bnd := fun _ _ _ _ _ _ us hl => match us, hl with | [_], _ => rfl
theorem bf_law_form_of : (ef_law_form_of).bnd := fun _ _ _ _ _ _ us hl => match us, hl with | [_], _ => rfl
theorem bf_law_told : (ef_law_told).bnd := fun _ _ _ _ _ _ us hl => match us, hl with | [_, _, _], _ => rfl
theorem bf_law_period : (ef_law_period).bnd := fun _ _ _ _ _ _ us hl => match us, hl with | [_, _], _ => rfl
theorem bf_law_starts_well : (ef_law_starts_well).bnd := fun _ _ _ _ _ _ us hl => match us, hl with | [_, _, _, _], _ => rfl
theorem bf_law_start_holds : (ef_law_start_holds).bnd := fun _ _ _ _ _ _ us hl => match us, hl with | [_, _, _, _, _], _ => rfl
theorem bf_law_holds : (ef_law_holds).bnd := fun _ _ _ _ _ _ us hl => match us, hl with | [_, _, _], _ => rfl
theorem bf_law_paper : (ef_law_paper).bnd := fun _ _ _ _ _ _ us hl => match us, hl with | [_, _, _], _ => rfl
theorem bf_law_bent_paper : (ef_law_bent_paper).bnd := fun _ _ _ _ _ _ us hl => match us, hl with | [_, _, _, _], _ => rfl
theorem bf_law_rows : (ef_law_rows).bnd := fun _ _ _ _ _ _ us hl => match us, hl with | [_, _], _ => rfl
theorem bf_law_pair : (ef_law_pair).bnd := fun _ _ _ _ _ _ us hl => match us, hl with | [_], _ => rfl
theorem bf_law_promise : (ef_law_promise).bnd := fun _ _ _ _ _ _ us hl => match us, hl with | [_, _], _ => rfl
theorem bf_law_bent : (ef_law_bent).bnd := fun _ _ _ _ _ _ us hl => match us, hl with | [_, _], _ => rfl
theorem bf_law_right : (ef_law_right).bnd := fun _ _ _ _ _ _ us hl => match us, hl with | [_], _ => rfl
theorem bp_law : (ep_law).bnd := fun _ _ _ _ _ _ us hl => match us, hl with | [_], _ => rfl
theorem bnd_all : ∀ e ∈ tb, e.bnd := by
  intro e he
  simp only [tb, List.mem_cons, List.not_mem_nil, or_false] at he
  rcases he with rfl | rfl | rfl | rfl | rfl | rfl | rfl | rfl | rfl | rfl | rfl | rfl | rfl | rfl | rfl | rfl | rfl | rfl | rfl | rfl | rfl | rfl | rfl | rfl | rfl | rfl | rfl | rfl | rfl | rfl | rfl | rfl | rfl | rfl | rfl | rfl | rfl
  · exact bp_is_integer
  · exact bp_is_between
  · exact bp_common_divisor
  · exact bp_common_multiple
  · exact bp_is_fraction
  · exact bp_is_form
  · exact bp_over_one
  · exact bp_bottom_of
  · exact bp_quotient
  · exact bp_place_of
  · exact bp_tells_integers
  · exact bp_shortest
  · exact bp_told_at
  · exact bp_is_told
  · exact bp_quotient_is
  · exact bp_stays_at_most
  · exact bp_at_most_shown
  · exact bp_accepts
  · exact bf_law_purse
  · exact bf_law_draw
  · exact bf_law_asked
  · exact bf_law_lowest
  · exact bf_law_sixths
  · exact bf_law_form_of
  · exact bf_law_told
  · exact bf_law_period
  · exact bf_law_starts_well
  · exact bf_law_start_holds
  · exact bf_law_holds
  · exact bf_law_paper
  · exact bf_law_bent_paper
  · exact bf_law_rows
  · exact bf_law_pair
  · exact bf_law_promise
  · exact bf_law_bent
  · exact bf_law_right
  · exact bp_law
theorem bndk_all : ∀ e ∈ tb, e.bndk kws := by
  intro e he ks pm h
  unfold kws at h
  rw [List.lookup_cons] at h
  split at h
  · rename_i c
    cases h
    have c := eq_of_beq c
    injection c with hn hk
    subst hk
    simp only [tb, List.mem_cons, List.not_mem_nil, or_false] at he
    rcases he with rfl | rfl | rfl | rfl | rfl | rfl | rfl | rfl | rfl | rfl | rfl | rfl | rfl | rfl | rfl | rfl | rfl | rfl | rfl | rfl | rfl | rfl | rfl | rfl | rfl | rfl | rfl | rfl | rfl | rfl | rfl | rfl | rfl | rfl | rfl | rfl | rfl
    · exact absurd hn (by decide +kernel)
    · exact absurd hn (by decide +kernel)
    · exact absurd hn (by decide +kernel)
    · exact absurd hn (by decide +kernel)
    · exact absurd hn (by decide +kernel)
    · exact absurd hn (by decide +kernel)
    · exact absurd hn (by decide +kernel)
    · exact absurd hn (by decide +kernel)
    · exact absurd hn (by decide +kernel)
    · exact absurd hn (by decide +kernel)
    · exact absurd hn (by decide +kernel)
    · exact absurd hn (by decide +kernel)
    · exact absurd hn (by decide +kernel)
    · exact absurd hn (by decide +kernel)
    · exact absurd hn (by decide +kernel)
    · exact absurd hn (by decide +kernel)
    · exact absurd hn (by decide +kernel)
    · exact fun _ _ _ _ _ _ ws hl => match ws, hl with | [_, _], _ => rfl
    · exact absurd hn (by decide +kernel)
    · exact absurd hn (by decide +kernel)
    · exact absurd hn (by decide +kernel)
    · exact absurd hn (by decide +kernel)
    · exact absurd hn (by decide +kernel)
    · exact absurd hn (by decide +kernel)
    · exact absurd hn (by decide +kernel)
    · exact absurd hn (by decide +kernel)
    · exact absurd hn (by decide +kernel)
    · exact absurd hn (by decide +kernel)
    · exact absurd hn (by decide +kernel)
    · exact absurd hn (by decide +kernel)
    · exact absurd hn (by decide +kernel)
    · exact absurd hn (by decide +kernel)
    · exact absurd hn (by decide +kernel)
    · exact absurd hn (by decide +kernel)
    · exact absurd hn (by decide +kernel)
    · exact absurd hn (by decide +kernel)
    · exact absurd hn (by decide +kernel)
  cases h
/-! ### the head: facts by names, the run -/
theorem pr_ok {K : PySem.W.Frag} {h : Heap} {mg : Str → Option Value} (X : K.In h) (G : h.Ns mainGlobals mg) (c : He.SaysD fa fn K) : PrOk K mg tb csts := by
  refine ⟨fun e he => ?_, fun p hp => ?_, fun x hx => ?_⟩
  · simp only [tb, List.mem_cons, List.not_mem_nil, or_false] at he
    rcases he with rfl | rfl | rfl | rfl | rfl | rfl | rfl | rfl | rfl | rfl | rfl | rfl | rfl | rfl | rfl | rfl | rfl | rfl | rfl | rfl | rfl | rfl | rfl | rfl | rfl | rfl | rfl | rfl | rfl | rfl | rfl | rfl | rfl | rfl | rfl | rfl | rfl
    · obtain ⟨fd, F⟩ := c.def_ 0 (d := dp_is_integer) rfl
      exact ⟨_, fd, F, He.glo_ok X G (c.fact 0 (f := .glo "is_integer") rfl)⟩
    · obtain ⟨fd, F⟩ := c.def_ 1 (d := dp_is_between) rfl
      exact ⟨_, fd, F, He.glo_ok X G (c.fact 1 (f := .glo "is_between") rfl)⟩
    · obtain ⟨fd, F⟩ := c.def_ 2 (d := dp_common_divisor) rfl
      exact ⟨_, fd, F, He.glo_ok X G (c.fact 2 (f := .glo "common_divisor") rfl)⟩
    · obtain ⟨fd, F⟩ := c.def_ 3 (d := dp_common_multiple) rfl
      exact ⟨_, fd, F, He.glo_ok X G (c.fact 3 (f := .glo "common_multiple") rfl)⟩
    · obtain ⟨fd, F⟩ := c.def_ 4 (d := dp_is_fraction) rfl
      exact ⟨_, fd, F, He.glo_ok X G (c.fact 4 (f := .glo "is_fraction") rfl)⟩
    · obtain ⟨fd, F⟩ := c.def_ 5 (d := dp_is_form) rfl
      exact ⟨_, fd, F, He.glo_ok X G (c.fact 5 (f := .glo "is_form") rfl)⟩
    · obtain ⟨fd, F⟩ := c.def_ 6 (d := dp_over_one) rfl
      exact ⟨_, fd, F, He.glo_ok X G (c.fact 6 (f := .glo "over_one") rfl)⟩
    · obtain ⟨fd, F⟩ := c.def_ 7 (d := dp_bottom_of) rfl
      exact ⟨_, fd, F, He.glo_ok X G (c.fact 7 (f := .glo "bottom_of") rfl)⟩
    · obtain ⟨fd, F⟩ := c.def_ 8 (d := dp_quotient) rfl
      exact ⟨_, fd, F, He.glo_ok X G (c.fact 8 (f := .glo "quotient") rfl)⟩
    · obtain ⟨fd, F⟩ := c.def_ 9 (d := dp_place_of) rfl
      exact ⟨_, fd, F, He.glo_ok X G (c.fact 9 (f := .glo "place_of") rfl)⟩
    · obtain ⟨fd, F⟩ := c.def_ 10 (d := dp_tells_integers) rfl
      exact ⟨_, fd, F, He.glo_ok X G (c.fact 10 (f := .glo "tells_integers") rfl)⟩
    · obtain ⟨fd, F⟩ := c.def_ 11 (d := dp_shortest) rfl
      exact ⟨_, fd, F, He.glo_ok X G (c.fact 11 (f := .glo "shortest") rfl)⟩
    · obtain ⟨fd, F⟩ := c.def_ 12 (d := dp_told_at) rfl
      exact ⟨_, fd, F, He.glo_ok X G (c.fact 12 (f := .glo "told_at") rfl)⟩
    · obtain ⟨fd, F⟩ := c.def_ 13 (d := dp_is_told) rfl
      exact ⟨_, fd, F, He.glo_ok X G (c.fact 13 (f := .glo "is_told") rfl)⟩
    · obtain ⟨fd, F⟩ := c.def_ 14 (d := dp_quotient_is) rfl
      exact ⟨_, fd, F, He.glo_ok X G (c.fact 14 (f := .glo "quotient_is") rfl)⟩
    · obtain ⟨fd, F⟩ := c.def_ 15 (d := dp_stays_at_most) rfl
      exact ⟨_, fd, F, He.glo_ok X G (c.fact 15 (f := .glo "stays_at_most") rfl)⟩
    · obtain ⟨fd, F⟩ := c.def_ 16 (d := dp_at_most_shown) rfl
      exact ⟨_, fd, F, He.glo_ok X G (c.fact 16 (f := .glo "at_most_shown") rfl)⟩
    · obtain ⟨fd, F⟩ := c.def_ 17 (d := dp_accepts) rfl
      exact ⟨_, fd, F, He.glo_ok X G (c.fact 17 (f := .glo "accepts") rfl)⟩
    · obtain ⟨fd, F⟩ := c.def_ 18 (d := df_law_purse) rfl
      exact ⟨_, fd, F, He.glo_ok X G (c.fact 18 (f := .glo "_law_purse") rfl)⟩
    · obtain ⟨fd, F⟩ := c.def_ 19 (d := df_law_draw) rfl
      exact ⟨_, fd, F, He.glo_ok X G (c.fact 19 (f := .glo "_law_draw") rfl)⟩
    · obtain ⟨fd, F⟩ := c.def_ 20 (d := df_law_asked) rfl
      exact ⟨_, fd, F, He.glo_ok X G (c.fact 20 (f := .glo "_law_asked") rfl)⟩
    · obtain ⟨fd, F⟩ := c.def_ 21 (d := df_law_lowest) rfl
      exact ⟨_, fd, F, He.glo_ok X G (c.fact 21 (f := .glo "_law_lowest") rfl)⟩
    · obtain ⟨fd, F⟩ := c.def_ 22 (d := df_law_sixths) rfl
      exact ⟨_, fd, F, He.glo_ok X G (c.fact 22 (f := .glo "_law_sixths") rfl)⟩
    · obtain ⟨fd, F⟩ := c.def_ 23 (d := df_law_form_of) rfl
      exact ⟨_, fd, F, He.glo_ok X G (c.fact 23 (f := .glo "_law_form_of") rfl)⟩
    · obtain ⟨fd, F⟩ := c.def_ 24 (d := df_law_told) rfl
      exact ⟨_, fd, F, He.glo_ok X G (c.fact 24 (f := .glo "_law_told") rfl)⟩
    · obtain ⟨fd, F⟩ := c.def_ 25 (d := df_law_period) rfl
      exact ⟨_, fd, F, He.glo_ok X G (c.fact 25 (f := .glo "_law_period") rfl)⟩
    · obtain ⟨fd, F⟩ := c.def_ 26 (d := df_law_starts_well) rfl
      exact ⟨_, fd, F, He.glo_ok X G (c.fact 26 (f := .glo "_law_starts_well") rfl)⟩
    · obtain ⟨fd, F⟩ := c.def_ 27 (d := df_law_start_holds) rfl
      exact ⟨_, fd, F, He.glo_ok X G (c.fact 27 (f := .glo "_law_start_holds") rfl)⟩
    · obtain ⟨fd, F⟩ := c.def_ 28 (d := df_law_holds) rfl
      exact ⟨_, fd, F, He.glo_ok X G (c.fact 28 (f := .glo "_law_holds") rfl)⟩
    · obtain ⟨fd, F⟩ := c.def_ 29 (d := df_law_paper) rfl
      exact ⟨_, fd, F, He.glo_ok X G (c.fact 29 (f := .glo "_law_paper") rfl)⟩
    · obtain ⟨fd, F⟩ := c.def_ 30 (d := df_law_bent_paper) rfl
      exact ⟨_, fd, F, He.glo_ok X G (c.fact 30 (f := .glo "_law_bent_paper") rfl)⟩
    · obtain ⟨fd, F⟩ := c.def_ 31 (d := df_law_rows) rfl
      exact ⟨_, fd, F, He.glo_ok X G (c.fact 31 (f := .glo "_law_rows") rfl)⟩
    · obtain ⟨fd, F⟩ := c.def_ 32 (d := df_law_pair) rfl
      exact ⟨_, fd, F, He.glo_ok X G (c.fact 32 (f := .glo "_law_pair") rfl)⟩
    · obtain ⟨fd, F⟩ := c.def_ 33 (d := df_law_promise) rfl
      exact ⟨_, fd, F, He.glo_ok X G (c.fact 33 (f := .glo "_law_promise") rfl)⟩
    · obtain ⟨fd, F⟩ := c.def_ 34 (d := df_law_bent) rfl
      exact ⟨_, fd, F, He.glo_ok X G (c.fact 34 (f := .glo "_law_bent") rfl)⟩
    · obtain ⟨fd, F⟩ := c.def_ 35 (d := df_law_right) rfl
      exact ⟨_, fd, F, He.glo_ok X G (c.fact 35 (f := .glo "_law_right") rfl)⟩
    · obtain ⟨fd, F⟩ := c.def_ 36 (d := dp_law) rfl
      exact ⟨_, fd, F, He.glo_ok X G (c.fact 36 (f := .glo "law") rfl)⟩
  · simp only [csts, List.mem_cons, List.not_mem_nil, or_false] at hp
    rcases hp with rfl | rfl
    · obtain ⟨t, e⟩ := He.int_ok X G (c.fact 55 (f := .int "MOST_LENGTH" 1000) rfl)
      exact ⟨.int 1000, _, e, ⟨t, rfl⟩, fun _ _ => rfl⟩
    · obtain ⟨t, e⟩ := He.int_ok X G (c.fact 56 (f := .int "MOST_DEGREE" 12) rfl)
      exact ⟨.int 12, _, e, ⟨t, rfl⟩, fun _ _ => rfl⟩
  · have hx : x ∈ (["len", "abs", "min", "max", "sum", "all", "any", "int", "list", "tuple"] : List Str) ++ (["divmod", "str", "range", "enumerate", "zip", "isinstance", "repr", "bool"] : List Str) := hx
    simp only [List.mem_append, List.mem_cons, List.not_mem_nil, or_false] at hx
    rcases hx with (rfl | rfl | rfl | rfl | rfl | rfl | rfl | rfl | rfl | rfl) | (rfl | rfl | rfl | rfl | rfl | rfl | rfl | rfl)
    · exact He.free_ok X G (c.fact 37 (f := .free "len") rfl)
    · exact He.free_ok X G (c.fact 38 (f := .free "abs") rfl)
    · exact He.free_ok X G (c.fact 39 (f := .free "min") rfl)
    · exact He.free_ok X G (c.fact 40 (f := .free "max") rfl)
    · exact He.free_ok X G (c.fact 41 (f := .free "sum") rfl)
    · exact He.free_ok X G (c.fact 42 (f := .free "all") rfl)
    · exact He.free_ok X G (c.fact 43 (f := .free "any") rfl)
    · exact He.free_ok X G (c.fact 44 (f := .free "int") rfl)
    · exact He.free_ok X G (c.fact 45 (f := .free "list") rfl)
    · exact He.free_ok X G (c.fact 46 (f := .free "tuple") rfl)
    · exact He.free_ok X G (c.fact 47 (f := .free "divmod") rfl)
    · exact He.free_ok X G (c.fact 48 (f := .free "str") rfl)
    · exact He.free_ok X G (c.fact 49 (f := .free "range") rfl)
    · exact He.free_ok X G (c.fact 50 (f := .free "enumerate") rfl)
    · exact He.free_ok X G (c.fact 51 (f := .free "zip") rfl)
    · exact He.free_ok X G (c.fact 52 (f := .free "isinstance") rfl)
    · exact He.free_ok X G (c.fact 53 (f := .free "repr") rfl)
    · exact He.free_ok X G (c.fact 54 (f := .free "bool") rfl)
theorem promise {K : PySem.W.Frag} {H : Hp} {a : Addr} {ns : List Int} (hl : ns.length ≤ 63) (hO : Only H) (hS : SqL K H a (ns.map V.int)) : spF K (callF (tbOf tb) wB 11 36) 1 [.ref a] H fun v _ => v = .bl true := by
  rw [tb_P]
  exact promise0 hl hO hS
end K67
open PySem PySem.W PySem.Calls PyProof.Rows
theorem PySem.Challenge.cw_shapetallies_k67_comparisons_as_certific_holds : PySem.Challenge.rw_shapetallies_k67_comparisons_as_certific.Holds := by
  w_on; o_law
  refine HandSHeadRun.head_any (r := OpenLaw.row PySem.Challenge.rw_shapetallies_k67_comparisons_as_certific) (q := view (OpenLaw.row PySem.Challenge.rw_shapetallies_k67_comparisons_as_certific).prog [125]) (H := HK67.hk) (ob := HK67.ob) (M := 14000) (loose := HK67.nms) (d := HandSHeadRun.topDef (OpenLaw.row PySem.Challenge.rw_shapetallies_k67_comparisons_as_certific).prog 125) (kwd := []) HK67.ob_eq
    (by kernel_rfl) (fun s => by kernel_rfl) HK67.run (by kernel_rfl) (by kernel_rfl) (by kernel_rfl) (by rfl) (by first | assumption | decide +kernel) (by decide +kernel) ⟨rfl, rfl, rfl, rfl, rfl, by decide +kernel⟩ ?hw ?hc
  case hw => w_witness2
  case hc =>
    refine Ev.walk_ofG (l := PySem.Challenge.rw_shapetallies_k67_comparisons_as_certific) (n := 63) (k := 11) (x := "_law_script") rfl (by decide) (by kernel_rfl) ⟨rfl, by decide, by decide⟩ ?F
    intro w mg fa h Y G hmg0
    obtain ⟨K, KX, c⟩ := Y
    have hmg : mg ("law" : PySem.Str) = some (.ref fa) := by
      have e : (HandSHeadRun.topDef (OpenLaw.row PySem.Challenge.rw_shapetallies_k67_comparisons_as_certific).prog 125).name = ("law" : PySem.Str) := by kernel_rfl
      rw [← e]
      exact hmg0
    have ok := K67.pr_ok KX G c
    obtain ⟨f, fd, F, hm, _⟩ := Ev.prog_ok (P := (PySem.Challenge.rw_shapetallies_k67_comparisons_as_certific).prog) (W := w) (base := h) (w := K67.wB) K67.chk_all K67.bnd_all K67.bndk_all ok 0 36 K67.ep_law rfl
    have hn : K67.ep_law.name = ("law" : PySem.Str) := by kernel_rfl
    rw [hn] at hm
    have e2 := hm.symm.trans hmg
    injection e2 with e2
    injection e2 with e2
    subst e2
    refine ⟨K, fd, Ev.spF K (Ev.callF (Ev.tbOf K67.tb) K67.wB 11 36) 1, KX, fun s u => ?_, fun H a ns hl hO hS => ?_, fun base hb hg => ?_⟩
    · have b := L2.FunD.bindsA (ps := ["_law_script"]) F fun _ _ _ _ _ _ us hl => match us, hl with | [_], _ => rfl
      exact b s [u] rfl
    · exact K67.promise hl hO hS
    · obtain ⟨f2, fd2, F2, hm2, FG⟩ := Ev.prog_ok (P := (PySem.Challenge.rw_shapetallies_k67_comparisons_as_certific).prog) (W := w) (base := base) (w := K67.wB) K67.chk_all K67.bnd_all K67.bndk_all ok 11 36 K67.ep_law rfl
      rw [hn] at hm2
      have e3 := hm2.symm.trans hmg
      injection e3 with e3
      injection e3 with e3
      subst e3
      have e4 := K67.funD_inj F2 F
      subst e4
      exact FG
