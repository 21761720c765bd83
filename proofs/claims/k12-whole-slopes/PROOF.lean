import PyProof.Rows.All
import Wide.All
import OpenK.AllK
import Wide.FinOn
import KE.KStateDown
import Lean
import HandS.Base
import HandS.Call
import HandS.Ends
import HandS.More
import HandS.Words
import HandS.WordsExc
import HandS.Defaults
import HandS.Head0
import HandS.Head1
import HandS.Head2
import HandS.HeadEnd
import HandS.HeadHook1
import HandS.HeadHook2
import HandS.HeadHook3
import HandS.HeadHook4
import PySem.Challenge.RW_typedcurve_k12_whole_slopes_and_what_is
import HandS.ForMost
import HandS.IsInst
import HandS.Wide
import HandS.DictTup
import HandS.DictComp
import HandS.TupLen
import HandS.OwnEq
import HandS.Style
import HandS.Conv
import HandS.NoneIn
import HandS.Zip
import HandS.TupSets
import HandS.RaiseMore
import HandS.MakeKwOnly
import KE.DataMinMax
import HandS.SortKw
import KE.KDictPairs
import KE.KDictDisplayH
set_option Elab.async false
set_option linter.all false
set_option maxRecDepth 100000
set_option maxHeartbeats 16000000
set_option exponentiation.threshold 5000
namespace Kd
open PySem PySem.Spec PyProof.Rows L2
/-! the text, by places -/
def top (i : Nat) : Stmt := PySem.Challenge.pw_typedcurve_k12_whole_slopes_and_what_is.main.body.getD i (.Pass ⟨0, 0, 0, 0⟩)
end Kd
namespace Kh
open PySem PySem.Spec PyProof.Rows L2
open Kd (top)
def dOf (x : Str) (i : Nat) : He.DefD := ⟨(x, none), x, x, defArgs (top i), defBody (top i), defScope (top i), [], []⟩
def mOf (C m q : Str) (i j : Nat) : He.DefD := ⟨(C, some m), m, q, defArgs (inClass (top i) j), defBody (inClass (top i) j), defScope (inClass (top i) j), [], []⟩
def fn : List He.DefD := [dOf "is_integer" 8, dOf "is_within" 9, dOf "is_list" 10, dOf "common" 11, dOf "is_number" 12, dOf "is_point" 13, dOf "is_turn" 14, dOf "kept" 15, dOf "kept_row" 16, dOf "need_number" 17, dOf "need_point" 18, dOf "need_turn" 19, dOf "halves" 21, dOf "lowest" 22, dOf "added" 23, dOf "turned" 24, dOf "product" 25, dOf "part_by" 26, dOf "is_term" 30, dOf "need_poly" 32, dOf "need_low" 33, dOf "of_powers" 34, dOf "lone" 35, dOf "line" 36, dOf "sum_of" 37, dOf "times_of" 38, dOf "product_of" 39, dOf "power_of" 40, dOf "put_in_of" 41, dOf "number_power" 42, dOf "value_of" 43, dOf "poly_sum" 44, dOf "poly_product" 45, dOf "value" 46, dOf "slope" 47, dOf "put_in" 48, dOf "moved" 49, dOf "turned_poly" 50, dOf "stretched" 51, dOf "_law_lathe" 53, dOf "_law_spin" 54, dOf "_law_one_of" 55, dOf "_law_both" 56, dOf "_law_low" 57, dOf "_law_plus" 58, dOf "_law_times" 59, dOf "_law_powers" 60, dOf "_law_terms" 61, dOf "_law_worth" 62, dOf "_law_some" 63, dOf "_law_point" 64, dOf "_law_turn" 65, dOf "_law_poly" 66, dOf "_law_dict" 67, dOf "_law_slope_right" 68, dOf "_law_put_right" 69, dOf "_law_led_right" 70, dOf "law" 71, mOf "Poly" "__init__" "Poly.__init__" 31 0, mOf "Poly" "__eq__" "Poly.__eq__" 31 1]
def fa : List He.Fa := [.glo "is_integer", .glo "is_within", .glo "is_list", .glo "common", .glo "is_number", .glo "is_point", .glo "is_turn", .glo "kept", .glo "kept_row", .glo "need_number", .glo "need_point", .glo "need_turn", .glo "halves", .glo "lowest", .glo "added", .glo "turned", .glo "product", .glo "part_by", .glo "is_term", .glo "need_poly", .glo "need_low", .glo "of_powers", .glo "lone", .glo "line", .glo "sum_of", .glo "times_of", .glo "product_of", .glo "power_of", .glo "put_in_of", .glo "number_power", .glo "value_of", .glo "poly_sum", .glo "poly_product", .glo "value", .glo "slope", .glo "put_in", .glo "moved", .glo "turned_poly", .glo "stretched", .glo "_law_lathe", .glo "_law_spin", .glo "_law_one_of", .glo "_law_both", .glo "_law_low", .glo "_law_plus", .glo "_law_times", .glo "_law_powers", .glo "_law_terms", .glo "_law_worth", .glo "_law_some", .glo "_law_point", .glo "_law_turn", .glo "_law_poly", .glo "_law_dict", .glo "_law_slope_right", .glo "_law_put_right", .glo "_law_led_right", .glo "law", .glo "Poly", .glo "UNKNOWNS", .int "MOST_DEGREE" 6, .free "abs", .free "all", .free "bool", .free "dict", .free "int", .free "isinstance", .free "len", .free "list", .free "max", .free "range", .free "repr", .free "sorted", .free "str", .free "tuple", .free "zip", .cls "Poly", .mkr "Poly", .meth "Poly" "__eq__", .noat "Poly" "terms", .noat "Poly" "degree", .keep "Poly"]
/-- what else is looked at -/
def ex (K : PySem.W.Frag) : Bool := He.tupB K "UNKNOWNS" [.str "x", .str "y"] && (He.eqO (PySem.W.findIn K (.ref (He.ga K "Poly")) "__class__") (some (some (.builtin "object.__class__"))) &&
  (He.eqO (PySem.W.specialIn K (.builtin "object.__class__") "__get__") (some (some (.builtin "getset_descriptor.__get__"))) && (decide (PySem.W.takesIn K (.builtin "object.__class__") = some true) &&
  (decide (PySem.W.mroIn K (He.ga K "Poly") (.type "object") = some true) && He.eqO (PySem.W.findIn K (.ref (He.ga K "Poly")) "__ne__") (some (some (.builtin "object.__ne__")))))))
abbrev R : PySem.W.OpenRow := PySem.W.OpenLaw.row PySem.Challenge.rw_typedcurve_k12_whole_slopes_and_what_is
def hk : PySem.W.Hook := He.hookX 5 fa fn [] [] ex
def ob (s : PySem.W.SharedT) : He.AlX := He.obsX 5 fa fn [] [] ex (HandSHeadRun.getT s)
theorem ob_eq (s : PySem.W.SharedT) : ob s = hk.obs s.abs := He.obsX_eq (HandSHeadRun.getT_eq s)
def nm0 : List PySem.Str := ["is_integer", "is_within", "is_list", "common", "is_number", "is_point", "is_turn", "kept", "kept_row", "need_number", "need_point", "need_turn", "halves", "lowest", "added", "turned", "product", "part_by", "is_term", "need_poly", "need_low", "of_powers", "lone", "line", "sum_of", "times_of", "product_of", "power_of", "put_in_of", "number_power"]
def nm1 : List PySem.Str := ["value_of", "poly_sum", "poly_product", "value", "slope", "put_in", "moved", "turned_poly", "stretched", "_law_lathe", "_law_spin", "_law_one_of", "_law_both", "_law_low", "_law_plus", "_law_times", "_law_powers", "_law_terms", "_law_worth", "_law_some", "_law_point", "_law_turn", "_law_poly", "_law_dict", "_law_slope_right", "_law_put_right", "_law_led_right", "CurveError", "BadNumber", "BadPoint"]
def nm2 : List PySem.Str := ["BadTurn", "BadPoly", "TooMany", "Poly", "MOST_DEGREE", "UNKNOWNS"]
def nms : List PySem.Str := nm0 ++ nm1 ++ nm2
theorem run (w : World) : HandSHeadRun.RunEq R (PySem.W.view R.prog [71]) hk ob 20000 nms w := by
  intro os
  kernel_rfl
end Kh
namespace Pk
/-! ### sums of rationals over a list -/
def sm {α : Type} (l : List α) (w : α → Rat) : Rat := (l.map w).sum
theorem sm_nil {α : Type} (w : α → Rat) : sm [] w = 0 := rfl
theorem sm_cons {α : Type} (a : α) (l : List α) (w : α → Rat) : sm (a :: l) w = w a + sm l w := by
  unfold sm; rw [List.map_cons, List.sum_cons]
theorem sm_append {α : Type} (l m : List α) (w : α → Rat) : sm (l ++ m) w = sm l w + sm m w := by
  induction l with
  | nil => rw [List.nil_append, sm_nil]; grind
  | cons a l ih => rw [List.cons_append, sm_cons, sm_cons, ih]; grind
theorem sm_congr {α : Type} {l : List α} {w v : α → Rat} (h : ∀ a ∈ l, w a = v a) : sm l w = sm l v := by
  induction l with
  | nil => rfl
  | cons a l ih => rw [sm_cons, sm_cons, h a List.mem_cons_self, ih fun b hb => h b (List.mem_cons_of_mem _ hb)]
theorem sm_zero {α : Type} (l : List α) : sm l (fun _ => 0) = 0 := by
  induction l with
  | nil => rfl
  | cons a l ih => rw [sm_cons, ih]; grind
theorem sm_add {α : Type} (l : List α) (w v : α → Rat) : sm l (fun a => w a + v a) = sm l w + sm l v := by
  induction l with
  | nil => rw [sm_nil, sm_nil, sm_nil]; grind
  | cons a l ih => rw [sm_cons, sm_cons, sm_cons, ih]; grind
theorem sm_mul {α : Type} (l : List α) (c : Rat) (w : α → Rat) : sm l (fun a => c * w a) = c * sm l w := by
  induction l with
  | nil => rw [sm_nil, sm_nil]; grind
  | cons a l ih => rw [sm_cons, sm_cons, ih]; grind
theorem sm_map {α β : Type} (g : α → β) (l : List α) (w : β → Rat) : sm (l.map g) w = sm l (fun a => w (g a)) := by
  unfold sm; rw [List.map_map]; rfl
theorem sm_flatMap {α β : Type} (g : α → List β) (l : List α) (w : β → Rat) : sm (l.flatMap g) w = sm l (fun a => sm (g a) w) := by
  induction l with
  | nil => rfl
  | cons a l ih => rw [List.flatMap_cons, sm_append, sm_cons, ih]
theorem sm_swap {α β : Type} (l : List α) (m : List β) (w : α → β → Rat) : sm l (fun a => sm m (w a)) = sm m (fun b => sm l (fun a => w a b)) := by
  induction l with
  | nil => rw [sm_nil, show (fun b => sm ([] : List α) (fun a => w a b)) = fun _ => 0 from rfl, sm_zero]
  | cons a l ih =>
    rw [sm_cons, ih, ← sm_add]
    exact sm_congr fun b _ => (sm_cons a l (fun a => w a b)).symm
theorem sm_filterMap {α β : Type} (g : α → Option β) (l : List α) (w : β → Rat) : sm (l.filterMap g) w = sm l (fun a => match g a with | some b => w b | none => 0) := by
  induction l with
  | nil => rfl
  | cons a l ih =>
    rw [sm_cons]
    cases e : g a with
    | none => rw [List.filterMap_cons_none e, ih]; grind
    | some b => rw [List.filterMap_cons_some e, sm_cons, ih]
/-- the sum of a list of which one alone counts -/
theorem sm_one {α : Type} [DecidableEq α] {l : List α} (nd : l.Nodup) {a : α} (ha : a ∈ l) (c : Rat) (w : α → Rat) : sm l (fun b => (if b = a then c else 0) * w b) = c * w a := by
  induction l with
  | nil => cases ha
  | cons b l ih =>
    obtain ⟨n1, n2⟩ := List.nodup_cons.mp nd
    rw [sm_cons]
    by_cases e : b = a
    · subst e
      rw [if_pos rfl, show sm l (fun x => (if x = b then c else 0) * w x) = sm l (fun _ => 0) from sm_congr fun x hx => by rw [if_neg (show ¬ x = b from fun z => n1 (by rw [← z]; exact hx))]; grind, sm_zero]
      grind
    · rw [if_neg e, ih n2 ((List.mem_cons.mp ha).resolve_left fun z => e z.symm)]
      grind
/-! ### terms, their coefficients, their values -/
abbrev Tm := Nat × Nat × Rat
abbrev Co := Nat → Nat → Rat
/-- the coefficient at (i, j) -/
def co (l : List Tm) : Co := fun i j => sm l (fun t => if t.1 = i ∧ t.2.1 = j then t.2.2 else 0)
/-- the value -/
def evl (l : List Tm) (x y : Rat) : Rat := sm l (fun t => t.2.2 * (x ^ t.1 * y ^ t.2.1))
theorem co_nil (i j : Nat) : co [] i j = 0 := rfl
theorem co_cons (t : Tm) (l : List Tm) (i j : Nat) : co (t :: l) i j = (if t.1 = i ∧ t.2.1 = j then t.2.2 else 0) + co l i j := sm_cons _ _ _
theorem co_append (l m : List Tm) (i j : Nat) : co (l ++ m) i j = co l i j + co m i j := sm_append _ _ _
theorem evl_append (l m : List Tm) (x y : Rat) : evl (l ++ m) x y = evl l x y + evl m x y := sm_append _ _ _
theorem evl_cons (t : Tm) (l : List Tm) (x y : Rat) : evl (t :: l) x y = t.2.2 * (x ^ t.1 * y ^ t.2.1) + evl l x y := sm_cons _ _ _
/-- the pairs of powers, ascending -/
def tri : List (Nat × Nat) := [(0,0),(0,1),(0,2),(0,3),(0,4),(0,5),(0,6),(1,0),(1,1),(1,2),(1,3),(1,4),(1,5),(2,0),(2,1),(2,2),(2,3),(2,4),(3,0),(3,1),(3,2),(3,3),(4,0),(4,1),(4,2),(5,0),(5,1),(6,0)]
theorem tri_nd : tri.Nodup := by decide
theorem tri_le : ∀ p ∈ tri, p.1 + p.2 ≤ 6 := by decide
theorem tri_mem {i j : Nat} (h : i + j ≤ 6) : (i, j) ∈ tri := by
  have h1 : i < 7 := by omega
  have h2 : j < 7 := by omega
  have q : ∀ i : Fin 7, ∀ j : Fin 7, i.1 + j.1 ≤ 6 → (i.1, j.1) ∈ tri := by decide
  exact q ⟨i, h1⟩ ⟨j, h2⟩ h
def Low (l : List Tm) : Prop := ∀ t ∈ l, t.1 + t.2.1 ≤ 6
/-- the value of coefficients -/
def ev (f : Co) (x y : Rat) : Rat := sm tri (fun k => f k.1 k.2 * (x ^ k.1 * y ^ k.2))
theorem ev_co {l : List Tm} (h : Low l) (x y : Rat) : ev (co l) x y = evl l x y := by
  induction l with
  | nil =>
    unfold ev
    rw [show sm tri (fun k => co [] k.1 k.2 * (x ^ k.1 * y ^ k.2)) = sm tri (fun _ => 0) from sm_congr fun k _ => by rw [co_nil]; grind, sm_zero]
    rfl
  | cons t l ih =>
    have h1 := h t List.mem_cons_self
    have e := ih fun s hs => h s (List.mem_cons_of_mem _ hs)
    rw [evl_cons, ← e]
    unfold ev
    rw [← sm_one tri_nd (tri_mem h1) t.2.2 (fun k => x ^ k.1 * y ^ k.2), ← sm_add]
    refine sm_congr fun k _ => ?_
    rw [co_cons]
    by_cases q : t.1 = k.1 ∧ t.2.1 = k.2
    · rw [if_pos q, if_pos (show k = (t.1, t.2.1) from Prod.ext q.1.symm q.2.symm)]; grind
    · rw [if_neg q, if_neg (fun z => q ⟨by rw [z], by rw [z]⟩)]; grind
/-- the terms of coefficients, ascending, those that are 0 left out -/
def terms (f : Co) : List Tm := tri.filterMap fun k => if f k.1 k.2 = 0 then none else some (k.1, k.2, f k.1 k.2)
theorem evl_terms (f : Co) (x y : Rat) : evl (terms f) x y = ev f x y := by
  unfold evl terms ev
  rw [sm_filterMap]
  refine sm_congr fun k _ => ?_
  by_cases e : f k.1 k.2 = 0
  · rw [if_pos e, e]; grind
  · rw [if_neg e]
theorem low_terms (f : Co) : Low (terms f) := fun t ht => by
  obtain ⟨k, hk, e⟩ := List.mem_filterMap.mp ht
  by_cases z : f k.1 k.2 = 0
  · rw [if_pos z] at e; cases e
  · rw [if_neg z] at e; cases e; exact tri_le k hk
theorem terms_of {f : Co} {t : Tm} (h : t ∈ terms f) : t.1 + t.2.1 ≤ 6 ∧ t.2.2 = f t.1 t.2.1 ∧ t.2.2 ≠ 0 := by
  obtain ⟨k, hk, e⟩ := List.mem_filterMap.mp h
  by_cases z : f k.1 k.2 = 0
  · rw [if_pos z] at e; cases e
  · rw [if_neg z] at e; cases e; exact ⟨tri_le k hk, rfl, z⟩
theorem mem_terms {f : Co} {i j : Nat} (h : i + j ≤ 6) (z : f i j ≠ 0) : (i, j, f i j) ∈ terms f :=
  List.mem_filterMap.mpr ⟨(i, j), tri_mem h, by rw [if_neg z]⟩
theorem co_terms (f : Co) {i j : Nat} (h : i + j ≤ 6) : co (terms f) i j = f i j := by
  unfold co terms
  rw [sm_filterMap]
  have e := sm_one tri_nd (tri_mem h) (f i j) (fun _ => 1)
  rw [show f i j * 1 = f i j by grind] at e
  rw [← e]
  refine sm_congr fun k _ => ?_
  by_cases z : f k.1 k.2 = 0
  · rw [if_pos z]
    by_cases q : k = (i, j)
    · rw [if_pos q]; subst q; grind
    · rw [if_neg q]; grind
  · rw [if_neg z]
    by_cases q : k = (i, j)
    · subst q; rw [if_pos rfl]; show (if i = i ∧ j = j then f i j else 0) = _; rw [if_pos ⟨rfl, rfl⟩]; grind
    · rw [if_neg q]
      show (if k.1 = i ∧ k.2 = j then f k.1 k.2 else 0) = _
      rw [if_neg (fun w => q (Prod.ext w.1 w.2))]; grind
theorem co_far {l : List Tm} (h : Low l) {i j : Nat} (hi : 6 < i + j) : co l i j = 0 := by
  unfold co
  rw [show sm l (fun t => if t.1 = i ∧ t.2.1 = j then t.2.2 else 0) = sm l (fun _ => 0) from sm_congr fun t ht => by
    have := h t ht
    rw [if_neg (by omega)], sm_zero]
/-- coefficients of at most degree 6 -/
def Lw (f : Co) : Prop := ∀ i j, 6 < i + j → f i j = 0
theorem co_terms_eq {f : Co} (h : Lw f) : co (terms f) = f := by
  funext i j
  by_cases q : i + j ≤ 6
  · exact co_terms f q
  · rw [co_far (low_terms f) (by omega), h i j (by omega)]
theorem lw_co {l : List Tm} (h : Low l) : Lw (co l) := fun _ _ q => co_far h q
theorem fm_congr {α β : Type} {f g : α → Option β} : ∀ {l : List α}, (∀ a ∈ l, f a = g a) → l.filterMap f = l.filterMap g
  | [], _ => rfl
  | a :: l, h => by
    rw [List.filterMap_cons, List.filterMap_cons, h a List.mem_cons_self, fm_congr fun b hb => h b (List.mem_cons_of_mem _ hb)]
theorem terms_congr {f g : Co} (h : ∀ i j, i + j ≤ 6 → f i j = g i j) : terms f = terms g := by
  unfold terms
  exact fm_congr fun k hk => by rw [h k.1 k.2 (tri_le k hk)]
/-! ### one unknown: what is 0 everywhere is 0 -/
def pv (n : Nat) (c : Nat → Rat) (x : Rat) : Rat := sm (List.range n) (fun k => c k * x ^ k)
theorem pv_succ (n : Nat) (c : Nat → Rat) (x : Rat) : pv (n + 1) c x = pv n c x + c n * x ^ n := by
  unfold pv
  rw [List.range_succ, sm_append, sm_cons, sm_nil]; grind
theorem mul_pow_rat (x y : Rat) (n : Nat) : (x * y) ^ n = x ^ n * y ^ n := by
  induction n with
  | zero => grind
  | succ n ih => rw [Rat.pow_succ, Rat.pow_succ, Rat.pow_succ, ih]; grind
theorem one_pow_rat (n : Nat) : (1 : Rat) ^ n = 1 := by
  induction n with
  | zero => grind
  | succ n ih => rw [Rat.pow_succ, ih]; grind
theorem two_pow_ge (n : Nat) : (1 : Rat) ≤ 2 ^ n := by
  induction n with
  | zero => grind
  | succ n ih => rw [Rat.pow_succ]; grind
theorem two_pow_lt {k n : Nat} (h : k < n) : (2 : Rat) ^ k < 2 ^ n := by
  induction n with
  | zero => omega
  | succ n ih =>
    rw [Rat.pow_succ]
    have q := two_pow_ge n
    by_cases e : k = n
    · subst e; grind
    · have := ih (by omega)
      grind
theorem pv_scale (n : Nat) (c : Nat → Rat) (x : Rat) (a : Rat) : pv n c (a * x) = pv n (fun k => c k * a ^ k) x := by
  unfold pv
  exact sm_congr fun k _ => by rw [mul_pow_rat]; grind
theorem pv_lin (n : Nat) (c : Nat → Rat) (b : Nat → Rat) (a : Rat) (x : Rat) : pv n c x - a * pv n b x = pv n (fun k => c k - a * b k) x := by
  induction n with
  | zero => unfold pv; rw [List.range_zero, sm_nil, sm_nil, sm_nil]; grind
  | succ n ih => rw [pv_succ, pv_succ, pv_succ, ← ih]; grind
theorem pv_zero : ∀ (n : Nat) (c : Nat → Rat), (∀ x, pv n c x = 0) → ∀ k, k < n → c k = 0
  | 0, _, _, k, hk => absurd hk (Nat.not_lt_zero k)
  | n + 1, c, h, k, hk => by
    have h2 : ∀ x, pv n (fun k => c k * (2 ^ k - 2 ^ n)) x = 0 := fun x => by
      have e1 := h (2 * x)
      have e2 := h x
      rw [pv_scale] at e1
      have e3 := pv_lin (n + 1) (fun k => c k * 2 ^ k) c (2 ^ n) x
      rw [e1, e2, pv_succ] at e3
      have e4 : pv n (fun k => c k * (2 ^ k - 2 ^ n)) x = pv n (fun k => c k * 2 ^ k - 2 ^ n * c k) x := by
        unfold pv
        exact sm_congr fun k _ => by grind
      rw [e4]
      grind
    have low : ∀ k, k < n → c k = 0 := fun k hk => by
      have e := pv_zero n _ h2 k hk
      have lt := two_pow_lt hk
      have e' : c k * (2 ^ k - 2 ^ n) = 0 := e
      rcases Rat.mul_eq_zero.mp e' with z | z
      · exact z
      · grind
    by_cases e : k = n
    · subst e
      have e1 := h 1
      rw [pv_succ, one_pow_rat] at e1
      have e2 : pv k c 1 = 0 := by
        unfold pv
        rw [show sm (List.range k) (fun i => c i * 1 ^ i) = sm (List.range k) (fun _ => 0) from sm_congr fun i hi => by rw [low i (List.mem_range.mp hi)]; grind, sm_zero]
      grind
    · exact low k (by omega)
/-! ### two unknowns -/
theorem ev_grid (f : Co) (h : Lw f) (x y : Rat) : ev f x y = pv 7 (fun i => pv 7 (fun j => f i j) y) x := by
  have z : ∀ i j, 6 < i + j → f i j = 0 := h
  simp only [ev, tri, sm_cons, sm_nil, pv_succ, show ∀ (c : Nat → Rat) (x : Rat), pv 0 c x = 0 from fun _ _ => rfl]
  have z16 := z 1 6 (by omega)
  have z25 := z 2 5 (by omega); have z26 := z 2 6 (by omega)
  have z34 := z 3 4 (by omega); have z35 := z 3 5 (by omega); have z36 := z 3 6 (by omega)
  have z43 := z 4 3 (by omega); have z44 := z 4 4 (by omega); have z45 := z 4 5 (by omega); have z46 := z 4 6 (by omega)
  have z52 := z 5 2 (by omega); have z53 := z 5 3 (by omega); have z54 := z 5 4 (by omega); have z55 := z 5 5 (by omega); have z56 := z 5 6 (by omega)
  have z61 := z 6 1 (by omega); have z62 := z 6 2 (by omega); have z63 := z 6 3 (by omega); have z64 := z 6 4 (by omega); have z65 := z 6 5 (by omega); have z66 := z 6 6 (by omega)
  simp only [z16, z25, z26, z34, z35, z36, z43, z44, z45, z46, z52, z53, z54, z55, z56, z61, z62, z63, z64, z65, z66]
  generalize x ^ 0 = x0
  generalize x ^ 1 = x1
  generalize x ^ 2 = x2
  generalize x ^ 3 = x3
  generalize x ^ 4 = x4
  generalize x ^ 5 = x5
  generalize x ^ 6 = x6
  generalize y ^ 0 = y0
  generalize y ^ 1 = y1
  generalize y ^ 2 = y2
  generalize y ^ 3 = y3
  generalize y ^ 4 = y4
  generalize y ^ 5 = y5
  generalize y ^ 6 = y6
  grind
theorem ev_zero {f : Co} (h : Lw f) (z : ∀ x y, ev f x y = 0) : ∀ i j, f i j = 0 := fun i j => by
  by_cases q : 6 < i + j
  · exact h i j q
  · have e : ∀ y, pv 7 (fun j => f i j) y = 0 := fun y => pv_zero 7 _ (fun x => by rw [← ev_grid f h]; exact z x y) i (by omega)
    exact pv_zero 7 _ e j (by omega)
theorem ev_sub (f g : Co) (x y : Rat) : ev (fun i j => f i j - g i j) x y = ev f x y - ev g x y := by
  unfold ev
  have e := sm_add tri (fun k => f k.1 k.2 * (x ^ k.1 * y ^ k.2)) (fun k => (-1) * (g k.1 k.2 * (x ^ k.1 * y ^ k.2)))
  rw [sm_mul] at e
  rw [show sm tri (fun k => (f k.1 k.2 - g k.1 k.2) * (x ^ k.1 * y ^ k.2)) = sm tri (fun k => f k.1 k.2 * (x ^ k.1 * y ^ k.2) + (-1) * (g k.1 k.2 * (x ^ k.1 * y ^ k.2))) from sm_congr fun k _ => by grind, e]
  grind
/-- polynomials of one value everywhere are equal -/
theorem ev_inj {f g : Co} (hf : Lw f) (hg : Lw g) (h : ∀ x y, ev f x y = ev g x y) : f = g := by
  funext i j
  have e := ev_zero (f := fun i j => f i j - g i j) (fun i j q => by show f i j - g i j = 0; rw [hf i j q, hg i j q]; grind) (fun x y => by rw [ev_sub, h]; grind) i j
  have e' : f i j - g i j = 0 := e
  grind
end Pk

namespace Pk
theorem pow_add_rat (x : Rat) (m n : Nat) : x ^ (m + n) = x ^ m * x ^ n := by
  induction n with
  | zero => rw [Nat.add_zero]; grind
  | succ n ih => rw [← Nat.add_assoc, Rat.pow_succ, Rat.pow_succ, ih]; grind
/-! ### sum, multiple, product of terms -/
def mulT (s t : Tm) : Tm := (s.1 + t.1, s.2.1 + t.2.1, s.2.2 * t.2.2)
def prodl (l m : List Tm) : List Tm := l.flatMap fun s => m.map (mulT s)
def add (f g : Co) : Co := fun i j => f i j + g i j
def scl (f : Co) (c : Rat) : Co := fun i j => f i j * c
def mul (f g : Co) : Co := co (prodl (terms f) (terms g))
def cst (c : Rat) : Co := fun i j => if i = 0 ∧ j = 0 then c else 0
/-- a x + b y + c -/
def lin (a b c : Rat) : Co := fun i j => if i = 1 ∧ j = 0 then a else if i = 0 ∧ j = 1 then b else if i = 0 ∧ j = 0 then c else 0
/-- at most degree d -/
def Dg (d : Nat) (f : Co) : Prop := ∀ i j, f i j ≠ 0 → i + j ≤ d
theorem Dg.mono {d e : Nat} {f : Co} (h : Dg d f) (le : d ≤ e) : Dg e f := fun i j z => Nat.le_trans (h i j z) le
theorem Dg.lw {d : Nat} {f : Co} (h : Dg d f) (le : d ≤ 6) : Lw f := fun i j q => Decidable.byContradiction fun z => by
  have := h i j z
  omega
theorem Dg.of_lw {f : Co} (h : Lw f) : Dg 6 f := fun i j z => Decidable.byContradiction fun q => z (h i j (by omega))
theorem Dg.term {d : Nat} {f : Co} (h : Dg d f) {t : Tm} (ht : t ∈ terms f) : t.1 + t.2.1 ≤ d := by
  obtain ⟨_, e, z⟩ := terms_of ht
  exact h _ _ (by rw [← e]; exact z)
def DgL (d : Nat) (l : List Tm) : Prop := ∀ t ∈ l, t.1 + t.2.1 ≤ d
theorem DgL.low {d : Nat} {l : List Tm} (h : DgL d l) (le : d ≤ 6) : Low l := fun t ht => Nat.le_trans (h t ht) le
theorem co_dg {d : Nat} {l : List Tm} (h : DgL d l) : Dg d (co l) := fun i j z => Decidable.byContradiction fun q => z (by
  unfold co
  rw [show sm l (fun t => if t.1 = i ∧ t.2.1 = j then t.2.2 else 0) = sm l (fun _ => 0) from sm_congr fun t ht => by
    have := h t ht
    rw [if_neg (by omega)], sm_zero])
theorem prodl_mem {l m : List Tm} {t : Tm} (h : t ∈ prodl l m) : ∃ s ∈ l, ∃ u ∈ m, t = mulT s u := by
  obtain ⟨s, hs, e⟩ := List.mem_flatMap.mp h
  obtain ⟨u, hu, e2⟩ := List.mem_map.mp e
  exact ⟨s, hs, u, hu, e2.symm⟩
theorem prodl_dg {d e : Nat} {l m : List Tm} (h : DgL d l) (h2 : DgL e m) : DgL (d + e) (prodl l m) := fun t ht => by
  obtain ⟨s, hs, u, hu, rfl⟩ := prodl_mem ht
  have a := h s hs
  have b := h2 u hu
  show (s.1 + u.1) + (s.2.1 + u.2.1) ≤ d + e
  omega
theorem Dg.list {d : Nat} {f : Co} (h : Dg d f) : DgL d (terms f) := fun _ ht => h.term ht
theorem mul_dg {d e : Nat} {f g : Co} (h : Dg d f) (h2 : Dg e g) : Dg (d + e) (mul f g) := co_dg (prodl_dg h.list h2.list)
theorem cst_dg (c : Rat) : Dg 0 (cst c) := fun i j z => by
  unfold cst at z
  by_cases q : i = 0 ∧ j = 0
  · omega
  · rw [if_neg q] at z; exact absurd rfl z
theorem lin_dg (a b c : Rat) : Dg 1 (lin a b c) := fun i j z => by
  unfold lin at z
  by_cases q : i = 1 ∧ j = 0
  · omega
  · rw [if_neg q] at z
    by_cases q : i = 0 ∧ j = 1
    · omega
    · rw [if_neg q] at z
      by_cases q : i = 0 ∧ j = 0
      · omega
      · rw [if_neg q] at z; exact absurd rfl z
theorem add_dg {d : Nat} {f g : Co} (h : Dg d f) (h2 : Dg d g) : Dg d (add f g) := fun i j z => Decidable.byContradiction fun q => z (by
  have e1 : f i j = 0 := Decidable.byContradiction fun w => q (h i j w)
  have e2 : g i j = 0 := Decidable.byContradiction fun w => q (h2 i j w)
  show f i j + g i j = 0
  rw [e1, e2]; grind)
theorem scl_dg {d : Nat} {f : Co} (h : Dg d f) (c : Rat) : Dg d (scl f c) := fun i j z => Decidable.byContradiction fun q => z (by
  have e1 : f i j = 0 := Decidable.byContradiction fun w => q (h i j w)
  show f i j * c = 0
  rw [e1]; grind)
/-! values -/
theorem evl_prodl (l m : List Tm) (x y : Rat) : evl (prodl l m) x y = evl l x y * evl m x y := by
  unfold evl prodl
  rw [sm_flatMap]
  have e : ∀ s ∈ l, sm (m.map (mulT s)) (fun t => t.2.2 * (x ^ t.1 * y ^ t.2.1)) = sm m (fun t => t.2.2 * (x ^ t.1 * y ^ t.2.1)) * (s.2.2 * (x ^ s.1 * y ^ s.2.1)) := fun s _ => by
    rw [sm_map, show sm m (fun t => (mulT s t).2.2 * (x ^ (mulT s t).1 * y ^ (mulT s t).2.1)) = sm m (fun t => (s.2.2 * (x ^ s.1 * y ^ s.2.1)) * (t.2.2 * (x ^ t.1 * y ^ t.2.1))) from sm_congr fun t _ => by
      show (s.2.2 * t.2.2) * (x ^ (s.1 + t.1) * y ^ (s.2.1 + t.2.1)) = _
      rw [pow_add_rat, pow_add_rat]; grind, sm_mul]
    grind
  rw [sm_congr e, sm_mul]
  grind
theorem ev_mul {d e : Nat} {f g : Co} (h : Dg d f) (h2 : Dg e g) (le : d + e ≤ 6) (x y : Rat) : ev (mul f g) x y = ev f x y * ev g x y := by
  unfold mul
  rw [ev_co ((prodl_dg h.list h2.list).low le), evl_prodl, evl_terms, evl_terms]
theorem ev_add (f g : Co) (x y : Rat) : ev (add f g) x y = ev f x y + ev g x y := by
  unfold ev
  rw [← sm_add]
  exact sm_congr fun k _ => by show (f k.1 k.2 + g k.1 k.2) * _ = _; grind
theorem ev_scl (f : Co) (c : Rat) (x y : Rat) : ev (scl f c) x y = ev f x y * c := by
  unfold ev
  rw [show sm tri (fun k => scl f c k.1 k.2 * (x ^ k.1 * y ^ k.2)) = sm tri (fun k => c * (f k.1 k.2 * (x ^ k.1 * y ^ k.2))) from sm_congr fun k _ => by show f k.1 k.2 * c * _ = _; grind, sm_mul]
  grind
theorem co_one (i j : Nat) (c : Rat) (a b : Nat) : co [(i, j, c)] a b = if i = a ∧ j = b then c else 0 := by
  rw [co_cons, co_nil]; grind
theorem ev_cst (c x y : Rat) : ev (cst c) x y = c := by
  have e : cst c = co [(0, 0, c)] := by
    funext i j
    rw [co_one]
    unfold cst
    by_cases q : i = 0 ∧ j = 0
    · rw [if_pos q, if_pos ⟨q.1.symm, q.2.symm⟩]
    · rw [if_neg q, if_neg fun z => q ⟨z.1.symm, z.2.symm⟩]
  rw [e, ev_co (fun t ht => by rw [List.mem_singleton.mp ht]; exact Nat.zero_le 6), evl_cons]
  unfold evl
  rw [sm_nil]
  show c * (x ^ 0 * y ^ 0) + 0 = c
  grind
theorem ev_lin (a b c x y : Rat) : ev (lin a b c) x y = a * x + b * y + c := by
  have e : lin a b c = co [(1, 0, a), (0, 1, b), (0, 0, c)] := by
    funext i j
    rw [co_cons, co_cons, co_one]
    unfold lin
    show _ = (if 1 = i ∧ 0 = j then a else 0) + ((if 0 = i ∧ 1 = j then b else 0) + (if 0 = i ∧ 0 = j then c else 0))
    by_cases q : i = 1 ∧ j = 0
    · rw [if_pos q, if_pos (by omega), if_neg (by omega), if_neg (by omega)]; grind
    · rw [if_neg q, if_neg (show ¬ (1 = i ∧ 0 = j) by omega)]
      by_cases q2 : i = 0 ∧ j = 1
      · rw [if_pos q2, if_pos (by omega), if_neg (by omega)]; grind
      · rw [if_neg q2, if_neg (show ¬ (0 = i ∧ 1 = j) by omega)]
        by_cases q3 : i = 0 ∧ j = 0
        · rw [if_pos q3, if_pos (by omega)]; grind
        · rw [if_neg q3, if_neg (by omega)]; grind
  have lo : Low [(1, 0, a), (0, 1, b), (0, 0, c)] := fun t ht => by
    rcases List.mem_cons.mp ht with rfl | ht
    · show (1 : Nat) + 0 ≤ 6; omega
    · rcases List.mem_cons.mp ht with rfl | ht
      · show (0 : Nat) + 1 ≤ 6; omega
      · rw [List.mem_singleton.mp ht]; show (0 : Nat) + 0 ≤ 6; omega
  rw [e, ev_co lo, evl_cons, evl_cons, evl_cons]
  unfold evl
  rw [sm_nil]
  show a * (x ^ 1 * y ^ 0) + (b * (x ^ 0 * y ^ 1) + (c * (x ^ 0 * y ^ 0) + 0)) = _
  grind
/-! ### powers, what is put in -/
def pw (g : Co) : Nat → Co
  | 0 => cst 1
  | n + 1 => mul (pw g n) g
theorem pw_dg {d : Nat} {g : Co} (h : Dg d g) : ∀ n, Dg (n * d) (pw g n)
  | 0 => (cst_dg 1).mono (Nat.zero_le _)
  | n + 1 => by
    rw [Nat.succ_mul]
    exact mul_dg (pw_dg h n) h
theorem ev_pw {d : Nat} {g : Co} (h : Dg d g) (x y : Rat) : ∀ n, n * d ≤ 6 → ev (pw g n) x y = ev g x y ^ n
  | 0, _ => by
    show ev (cst 1) x y = _
    rw [ev_cst]; grind
  | n + 1, le => by
    rw [Nat.succ_mul] at le
    show ev (mul (pw g n) g) x y = _
    rw [ev_mul (pw_dg h n) h le, ev_pw h x y n (by omega), Rat.pow_succ]
/-- the terms so far, put in -/
def putl (g h : Co) : List Tm → Co
  | [] => cst 0
  | t :: r => add (scl (mul (pw g t.1) (pw h t.2.1)) t.2.2) (putl g h r)
def put (f g h : Co) : Co := putl g h (terms f)
/-- the degrees fit -/
def Fit (l : List Tm) (d e : Nat) : Prop := ∀ t ∈ l, t.1 * d + t.2.1 * e ≤ 6
theorem putl_dg {g h : Co} {d e : Nat} (hg : Dg d g) (hh : Dg e h) : ∀ {l : List Tm}, Fit l d e → Dg 6 (putl g h l)
  | [], _ => (cst_dg 0).mono (by omega)
  | t :: r, ft => add_dg (scl_dg ((mul_dg (pw_dg hg t.1) (pw_dg hh t.2.1)).mono (ft t List.mem_cons_self)) t.2.2) (putl_dg hg hh fun s hs => ft s (List.mem_cons_of_mem _ hs))
theorem ev_putl {g h : Co} {d e : Nat} (hg : Dg d g) (hh : Dg e h) (x y : Rat) : ∀ {l : List Tm}, Fit l d e → ev (putl g h l) x y = evl l (ev g x y) (ev h x y)
  | [], _ => by
    show ev (cst 0) x y = _
    rw [ev_cst]; rfl
  | t :: r, ft => by
    have f1 := ft t List.mem_cons_self
    show ev (add (scl (mul (pw g t.1) (pw h t.2.1)) t.2.2) (putl g h r)) x y = _
    rw [ev_add, ev_scl, ev_mul (pw_dg hg t.1) (pw_dg hh t.2.1) f1, ev_pw hg x y t.1 (by omega), ev_pw hh x y t.2.1 (by omega), ev_putl hg hh x y fun s hs => ft s (List.mem_cons_of_mem _ hs), evl_cons]
    grind
theorem ev_put {f g h : Co} {d e : Nat} (hg : Dg d g) (hh : Dg e h) (ft : Fit (terms f) d e) (x y : Rat) : ev (put f g h) x y = ev f (ev g x y) (ev h x y) := by
  unfold put
  rw [ev_putl hg hh x y ft, evl_terms]
theorem put_dg {f g h : Co} {d e : Nat} (hg : Dg d g) (hh : Dg e h) (ft : Fit (terms f) d e) : Dg 6 (put f g h) := putl_dg hg hh ft
/-- of a degree c, into which degrees d and e are put -/
theorem fit_of {f : Co} {c d : Nat} (hf : Dg c f) (le : c * d ≤ 6) : Fit (terms f) d d := fun t ht => by
  have q := hf.term ht
  rw [← Nat.add_mul]
  exact Nat.le_trans (Nat.mul_le_mul_right d q) le
/-! ### slopes -/
def dx (f : Co) : Co := fun i j => ((i + 1 : Nat) : Rat) * f (i + 1) j
def dy (f : Co) : Co := fun i j => ((j + 1 : Nat) : Rat) * f i (j + 1)
theorem dx_dg {d : Nat} {f : Co} (h : Dg d f) : Dg d (dx f) := fun i j z => by
  have : f (i + 1) j ≠ 0 := fun e => z (by unfold dx; rw [e]; grind)
  have := h _ _ this
  omega
theorem dy_dg {d : Nat} {f : Co} (h : Dg d f) : Dg d (dy f) := fun i j z => by
  have : f i (j + 1) ≠ 0 := fun e => z (by unfold dy; rw [e]; grind)
  have := h _ _ this
  omega
theorem dx_dg1 {d : Nat} {f : Co} (h : Dg (d + 1) f) : Dg d (dx f) := fun i j z => by
  have : f (i + 1) j ≠ 0 := fun e => z (by unfold dx; rw [e]; grind)
  have := h _ _ this
  omega
theorem dy_dg1 {d : Nat} {f : Co} (h : Dg (d + 1) f) : Dg d (dy f) := fun i j z => by
  have : f i (j + 1) ≠ 0 := fun e => z (by unfold dy; rw [e]; grind)
  have := h _ _ this
  omega
/-- the slope of a power -/
def dp (x : Rat) : Nat → Rat
  | 0 => 0
  | n + 1 => ((n + 1 : Nat) : Rat) * x ^ n
theorem dp_succ (x : Rat) (n : Nat) : dp x (n + 1) = dp x n * x + x ^ n := by
  cases n with
  | zero => show ((0 + 1 : Nat) : Rat) * x ^ 0 = 0 * x + x ^ 0; grind
  | succ n =>
    show ((n + 1 + 1 : Nat) : Rat) * x ^ (n + 1) = ((n + 1 : Nat) : Rat) * x ^ n * x + x ^ (n + 1)
    rw [show ((n + 1 + 1 : Nat) : Rat) = ((n + 1 : Nat) : Rat) + 1 by grind, Rat.pow_succ]
    grind
theorem dp_add (x : Rat) (m n : Nat) : dp x (m + n) = dp x m * x ^ n + x ^ m * dp x n := by
  induction n with
  | zero => show dp x m = dp x m * x ^ 0 + x ^ m * 0; grind
  | succ n ih =>
    rw [← Nat.add_assoc, dp_succ, ih, dp_succ, pow_add_rat, Rat.pow_succ]
    grind
/-- the slopes' values, of terms -/
def ex (l : List Tm) (x y : Rat) : Rat := sm l (fun t => t.2.2 * (dp x t.1 * y ^ t.2.1))
def ey (l : List Tm) (x y : Rat) : Rat := sm l (fun t => t.2.2 * (x ^ t.1 * dp y t.2.1))
theorem ex_prodl (l m : List Tm) (x y : Rat) : ex (prodl l m) x y = ex l x y * evl m x y + evl l x y * ex m x y := by
  induction l with
  | nil => show (0 : Rat) = 0 * _ + 0 * _; grind
  | cons s l ih =>
    have e0 : prodl (s :: l) m = m.map (mulT s) ++ prodl l m := by unfold prodl; rw [List.flatMap_cons]
    have e1 : ex (prodl (s :: l) m) x y = sm (m.map (mulT s)) (fun t => t.2.2 * (dp x t.1 * y ^ t.2.1)) + ex (prodl l m) x y := by
      rw [e0]; unfold ex; rw [sm_append]
    have e2 : sm (m.map (mulT s)) (fun t => t.2.2 * (dp x t.1 * y ^ t.2.1)) = (s.2.2 * (dp x s.1 * y ^ s.2.1)) * evl m x y + (s.2.2 * (x ^ s.1 * y ^ s.2.1)) * ex m x y := by
      rw [sm_map]
      unfold evl ex
      rw [← sm_mul, ← sm_mul, ← sm_add]
      refine sm_congr fun t _ => ?_
      show (s.2.2 * t.2.2) * (dp x (s.1 + t.1) * y ^ (s.2.1 + t.2.1)) = _
      rw [dp_add, pow_add_rat]; grind
    have e3 : ex (s :: l) x y = s.2.2 * (dp x s.1 * y ^ s.2.1) + ex l x y := sm_cons _ _ _
    rw [e1, e2, ih, e3, evl_cons]
    grind
theorem ey_prodl (l m : List Tm) (x y : Rat) : ey (prodl l m) x y = ey l x y * evl m x y + evl l x y * ey m x y := by
  induction l with
  | nil => show (0 : Rat) = 0 * _ + 0 * _; grind
  | cons s l ih =>
    have e0 : prodl (s :: l) m = m.map (mulT s) ++ prodl l m := by unfold prodl; rw [List.flatMap_cons]
    have e1 : ey (prodl (s :: l) m) x y = sm (m.map (mulT s)) (fun t => t.2.2 * (x ^ t.1 * dp y t.2.1)) + ey (prodl l m) x y := by
      rw [e0]; unfold ey; rw [sm_append]
    have e2 : sm (m.map (mulT s)) (fun t => t.2.2 * (x ^ t.1 * dp y t.2.1)) = (s.2.2 * (x ^ s.1 * dp y s.2.1)) * evl m x y + (s.2.2 * (x ^ s.1 * y ^ s.2.1)) * ey m x y := by
      rw [sm_map]
      unfold evl ey
      rw [← sm_mul, ← sm_mul, ← sm_add]
      refine sm_congr fun t _ => ?_
      show (s.2.2 * t.2.2) * (x ^ (s.1 + t.1) * dp y (s.2.1 + t.2.1)) = _
      rw [dp_add, pow_add_rat]; grind
    have e3 : ey (s :: l) x y = s.2.2 * (x ^ s.1 * dp y s.2.1) + ey l x y := sm_cons _ _ _
    rw [e1, e2, ih, e3, evl_cons]
    grind
/-- a sum over coefficients by terms -/
theorem sm_co {l : List Tm} (h : Low l) (w : Nat → Nat → Rat) : sm tri (fun k => co l k.1 k.2 * w k.1 k.2) = sm l (fun t => t.2.2 * w t.1 t.2.1) := by
  induction l with
  | nil => rw [show sm tri (fun k => co [] k.1 k.2 * w k.1 k.2) = sm tri (fun _ => 0) from sm_congr fun k _ => by rw [co_nil]; grind, sm_zero]; rfl
  | cons t l ih =>
    have h1 := h t List.mem_cons_self
    rw [sm_cons, ← ih fun s hs => h s (List.mem_cons_of_mem _ hs), ← sm_one tri_nd (tri_mem h1) t.2.2 (fun k => w k.1 k.2), ← sm_add]
    refine sm_congr fun k _ => ?_
    rw [co_cons]
    by_cases q : t.1 = k.1 ∧ t.2.1 = k.2
    · rw [if_pos q, if_pos (show k = (t.1, t.2.1) from Prod.ext q.1.symm q.2.symm)]; grind
    · rw [if_neg q, if_neg (fun z => q ⟨by rw [z], by rw [z]⟩)]; grind
def dxl (l : List Tm) : List Tm := l.filterMap fun t => if t.1 = 0 then none else some (t.1 - 1, t.2.1, (t.1 : Rat) * t.2.2)
def dyl (l : List Tm) : List Tm := l.filterMap fun t => if t.2.1 = 0 then none else some (t.1, t.2.1 - 1, (t.2.1 : Rat) * t.2.2)
theorem co_dxl (l : List Tm) : co (dxl l) = dx (co l) := by
  funext i j
  induction l with
  | nil => show (0 : Rat) = _ * 0; grind
  | cons t l ih =>
    have e : dx (co (t :: l)) i j = ((i + 1 : Nat) : Rat) * (if t.1 = i + 1 ∧ t.2.1 = j then t.2.2 else 0) + dx (co l) i j := by
      unfold dx; rw [co_cons]; grind
    rw [e, ← ih]
    unfold dxl
    by_cases z : t.1 = 0
    · rw [List.filterMap_cons_none (by rw [if_pos z]), if_neg (by omega)]; grind
    · rw [List.filterMap_cons_some (by rw [if_neg z]), co_cons]
      show (if t.1 - 1 = i ∧ t.2.1 = j then (t.1 : Rat) * t.2.2 else 0) + _ = _
      by_cases q : t.1 = i + 1 ∧ t.2.1 = j
      · rw [if_pos (by omega), if_pos q, q.1]
      · rw [if_neg (by omega), if_neg q]; grind
theorem co_dyl (l : List Tm) : co (dyl l) = dy (co l) := by
  funext i j
  induction l with
  | nil => show (0 : Rat) = _ * 0; grind
  | cons t l ih =>
    have e : dy (co (t :: l)) i j = ((j + 1 : Nat) : Rat) * (if t.1 = i ∧ t.2.1 = j + 1 then t.2.2 else 0) + dy (co l) i j := by
      unfold dy; rw [co_cons]; grind
    rw [e, ← ih]
    unfold dyl
    by_cases z : t.2.1 = 0
    · rw [List.filterMap_cons_none (by rw [if_pos z]), if_neg (by omega)]; grind
    · rw [List.filterMap_cons_some (by rw [if_neg z]), co_cons]
      show (if t.1 = i ∧ t.2.1 - 1 = j then (t.2.1 : Rat) * t.2.2 else 0) + _ = _
      by_cases q : t.1 = i ∧ t.2.1 = j + 1
      · rw [if_pos (by omega), if_pos q, q.2]
      · rw [if_neg (by omega), if_neg q]; grind
theorem dxl_low {l : List Tm} (h : Low l) : Low (dxl l) := fun t ht => by
  obtain ⟨s, hs, e⟩ := List.mem_filterMap.mp ht
  by_cases z : s.1 = 0
  · rw [if_pos z] at e; cases e
  · rw [if_neg z] at e; cases e
    have := h s hs
    show s.1 - 1 + s.2.1 ≤ 6
    omega
theorem dyl_low {l : List Tm} (h : Low l) : Low (dyl l) := fun t ht => by
  obtain ⟨s, hs, e⟩ := List.mem_filterMap.mp ht
  by_cases z : s.2.1 = 0
  · rw [if_pos z] at e; cases e
  · rw [if_neg z] at e; cases e
    have := h s hs
    show s.1 + (s.2.1 - 1) ≤ 6
    omega
theorem evl_dxl (l : List Tm) (x y : Rat) : evl (dxl l) x y = ex l x y := by
  unfold evl ex dxl
  rw [sm_filterMap]
  refine sm_congr fun t _ => ?_
  by_cases z : t.1 = 0
  · rw [if_pos z, z]; show (0 : Rat) = t.2.2 * (0 * _); grind
  · rw [if_neg z]
    obtain ⟨n, hn⟩ : ∃ n, t.1 = n + 1 := ⟨t.1 - 1, by omega⟩
    rw [hn]
    show ((n + 1 : Nat) : Rat) * t.2.2 * (x ^ n * y ^ t.2.1) = t.2.2 * (((n + 1 : Nat) : Rat) * x ^ n * y ^ t.2.1)
    grind
theorem evl_dyl (l : List Tm) (x y : Rat) : evl (dyl l) x y = ey l x y := by
  unfold evl ey dyl
  rw [sm_filterMap]
  refine sm_congr fun t _ => ?_
  by_cases z : t.2.1 = 0
  · rw [if_pos z, z]; show (0 : Rat) = t.2.2 * (_ * 0); grind
  · rw [if_neg z]
    obtain ⟨n, hn⟩ : ∃ n, t.2.1 = n + 1 := ⟨t.2.1 - 1, by omega⟩
    rw [hn]
    show ((n + 1 : Nat) : Rat) * t.2.2 * (x ^ t.1 * y ^ n) = t.2.2 * (x ^ t.1 * (((n + 1 : Nat) : Rat) * y ^ n))
    grind
theorem ev_dx_co {l : List Tm} (h : Low l) (x y : Rat) : ev (dx (co l)) x y = ex l x y := by
  rw [← co_dxl, ev_co (dxl_low h), evl_dxl]
theorem ev_dy_co {l : List Tm} (h : Low l) (x y : Rat) : ev (dy (co l)) x y = ey l x y := by
  rw [← co_dyl, ev_co (dyl_low h), evl_dyl]
theorem ev_dx {f : Co} (h : Lw f) (x y : Rat) : ev (dx f) x y = ex (terms f) x y := by
  have e := ev_dx_co (low_terms f) x y
  rw [co_terms_eq h] at e
  exact e
theorem ev_dy {f : Co} (h : Lw f) (x y : Rat) : ev (dy f) x y = ey (terms f) x y := by
  have e := ev_dy_co (low_terms f) x y
  rw [co_terms_eq h] at e
  exact e
theorem ev_dx_mul {d e : Nat} {f g : Co} (h : Dg d f) (h2 : Dg e g) (le : d + e ≤ 6) (x y : Rat) : ev (dx (mul f g)) x y = ev (dx f) x y * ev g x y + ev f x y * ev (dx g) x y := by
  unfold mul
  rw [ev_dx_co ((prodl_dg h.list h2.list).low le), ex_prodl, evl_terms, evl_terms, ev_dx (h.lw (by omega)), ev_dx (h2.lw (by omega))]
theorem ev_dy_mul {d e : Nat} {f g : Co} (h : Dg d f) (h2 : Dg e g) (le : d + e ≤ 6) (x y : Rat) : ev (dy (mul f g)) x y = ev (dy f) x y * ev g x y + ev f x y * ev (dy g) x y := by
  unfold mul
  rw [ev_dy_co ((prodl_dg h.list h2.list).low le), ey_prodl, evl_terms, evl_terms, ev_dy (h.lw (by omega)), ev_dy (h2.lw (by omega))]
theorem dx_add (f g : Co) : dx (add f g) = add (dx f) (dx g) := by
  funext i j; unfold dx add; grind
theorem dy_add (f g : Co) : dy (add f g) = add (dy f) (dy g) := by
  funext i j; unfold dy add; grind
theorem dx_scl (f : Co) (c : Rat) : dx (scl f c) = scl (dx f) c := by
  funext i j; unfold dx scl; grind
theorem dy_scl (f : Co) (c : Rat) : dy (scl f c) = scl (dy f) c := by
  funext i j; unfold dy scl; grind
theorem dx_cst (c : Rat) : dx (cst c) = fun _ _ => 0 := by
  funext i j; unfold dx cst; rw [if_neg (by omega)]; grind
theorem dy_cst (c : Rat) : dy (cst c) = fun _ _ => 0 := by
  funext i j; unfold dy cst; rw [if_neg (by omega)]; grind
theorem ev_0 (x y : Rat) : ev (fun _ _ => 0) x y = 0 := by
  unfold ev
  rw [show sm tri (fun k => (0 : Rat) * (x ^ k.1 * y ^ k.2)) = sm tri (fun _ => 0) from sm_congr fun k _ => by grind, sm_zero]
/-- the slope of a product -/
theorem dx_mul {d e : Nat} {f g : Co} (h : Dg d f) (h2 : Dg e g) (le : d + e ≤ 6) : dx (mul f g) = add (mul (dx f) g) (mul f (dx g)) := by
  have le6 : Dg 6 (dx (mul f g)) := dx_dg ((mul_dg h h2).mono le)
  have le7 : Dg 6 (add (mul (dx f) g) (mul f (dx g))) := (add_dg (mul_dg (dx_dg h) h2) (mul_dg h (dx_dg h2))).mono le
  refine ev_inj (le6.lw (Nat.le_refl _)) (le7.lw (Nat.le_refl _)) fun x y => ?_
  rw [ev_dx_mul h h2 le, ev_add, ev_mul (dx_dg h) h2 le, ev_mul h (dx_dg h2) le]
theorem dy_mul {d e : Nat} {f g : Co} (h : Dg d f) (h2 : Dg e g) (le : d + e ≤ 6) : dy (mul f g) = add (mul (dy f) g) (mul f (dy g)) := by
  have le6 : Dg 6 (dy (mul f g)) := dy_dg ((mul_dg h h2).mono le)
  have le7 : Dg 6 (add (mul (dy f) g) (mul f (dy g))) := (add_dg (mul_dg (dy_dg h) h2) (mul_dg h (dy_dg h2))).mono le
  refine ev_inj (le6.lw (Nat.le_refl _)) (le7.lw (Nat.le_refl _)) fun x y => ?_
  rw [ev_dy_mul h h2 le, ev_add, ev_mul (dy_dg h) h2 le, ev_mul h (dy_dg h2) le]
theorem ev_dx_pw {d : Nat} {g : Co} (h : Dg d g) (x y : Rat) : ∀ n, n * d ≤ 6 → ev (dx (pw g n)) x y = dp (ev g x y) n * ev (dx g) x y
  | 0, _ => by
    show ev (dx (cst 1)) x y = 0 * _
    rw [dx_cst, ev_0]; grind
  | n + 1, le => by
    rw [Nat.succ_mul] at le
    show ev (dx (mul (pw g n) g)) x y = _
    rw [ev_dx_mul (pw_dg h n) h le, ev_dx_pw h x y n (by omega), ev_pw h x y n (by omega), dp_succ]
    grind
theorem ev_dy_pw {d : Nat} {g : Co} (h : Dg d g) (x y : Rat) : ∀ n, n * d ≤ 6 → ev (dy (pw g n)) x y = dp (ev g x y) n * ev (dy g) x y
  | 0, _ => by
    show ev (dy (cst 1)) x y = 0 * _
    rw [dy_cst, ev_0]; grind
  | n + 1, le => by
    rw [Nat.succ_mul] at le
    show ev (dy (mul (pw g n) g)) x y = _
    rw [ev_dy_mul (pw_dg h n) h le, ev_dy_pw h x y n (by omega), ev_pw h x y n (by omega), dp_succ]
    grind
/-- along a way -/
theorem ev_dx_putl {g h : Co} {d e : Nat} (hg : Dg d g) (hh : Dg e h) (x y : Rat) : ∀ {l : List Tm}, Fit l d e →
    ev (dx (putl g h l)) x y = ex l (ev g x y) (ev h x y) * ev (dx g) x y + ey l (ev g x y) (ev h x y) * ev (dx h) x y
  | [], _ => by
    show ev (dx (cst 0)) x y = 0 * _ + 0 * _
    rw [dx_cst, ev_0]; grind
  | t :: r, ft => by
    have f1 := ft t List.mem_cons_self
    have ih := ev_dx_putl hg hh x y (l := r) fun s hs => ft s (List.mem_cons_of_mem _ hs)
    have e1 : ex (t :: r) (ev g x y) (ev h x y) = t.2.2 * (dp (ev g x y) t.1 * ev h x y ^ t.2.1) + ex r (ev g x y) (ev h x y) := sm_cons _ _ _
    have e2 : ey (t :: r) (ev g x y) (ev h x y) = t.2.2 * (ev g x y ^ t.1 * dp (ev h x y) t.2.1) + ey r (ev g x y) (ev h x y) := sm_cons _ _ _
    show ev (dx (add (scl (mul (pw g t.1) (pw h t.2.1)) t.2.2) (putl g h r))) x y = _
    rw [dx_add, dx_scl, ev_add, ev_scl, ev_dx_mul (pw_dg hg t.1) (pw_dg hh t.2.1) f1, ev_dx_pw hg x y t.1 (by omega), ev_dx_pw hh x y t.2.1 (by omega), ev_pw hg x y t.1 (by omega), ev_pw hh x y t.2.1 (by omega), ih, e1, e2]
    grind
theorem ev_dy_putl {g h : Co} {d e : Nat} (hg : Dg d g) (hh : Dg e h) (x y : Rat) : ∀ {l : List Tm}, Fit l d e →
    ev (dy (putl g h l)) x y = ex l (ev g x y) (ev h x y) * ev (dy g) x y + ey l (ev g x y) (ev h x y) * ev (dy h) x y
  | [], _ => by
    show ev (dy (cst 0)) x y = 0 * _ + 0 * _
    rw [dy_cst, ev_0]; grind
  | t :: r, ft => by
    have f1 := ft t List.mem_cons_self
    have ih := ev_dy_putl hg hh x y (l := r) fun s hs => ft s (List.mem_cons_of_mem _ hs)
    have e1 : ex (t :: r) (ev g x y) (ev h x y) = t.2.2 * (dp (ev g x y) t.1 * ev h x y ^ t.2.1) + ex r (ev g x y) (ev h x y) := sm_cons _ _ _
    have e2 : ey (t :: r) (ev g x y) (ev h x y) = t.2.2 * (ev g x y ^ t.1 * dp (ev h x y) t.2.1) + ey r (ev g x y) (ev h x y) := sm_cons _ _ _
    show ev (dy (add (scl (mul (pw g t.1) (pw h t.2.1)) t.2.2) (putl g h r))) x y = _
    rw [dy_add, dy_scl, ev_add, ev_scl, ev_dy_mul (pw_dg hg t.1) (pw_dg hh t.2.1) f1, ev_dy_pw hg x y t.1 (by omega), ev_dy_pw hh x y t.2.1 (by omega), ev_pw hg x y t.1 (by omega), ev_pw hh x y t.2.1 (by omega), ih, e1, e2]
    grind
theorem fit_dx {f : Co} {d e : Nat} (hf : Dg 6 f) (ft : Fit (terms f) d e) : Fit (terms (dx f)) d e := fun t ht => by
  obtain ⟨h1, h2, h3⟩ := terms_of ht
  have z : f (t.1 + 1) t.2.1 ≠ 0 := fun q => h3 (by rw [h2]; unfold dx; rw [q]; grind)
  have q' : (t.1 + 1) * d + t.2.1 * e ≤ 6 := ft _ (mem_terms (hf _ _ z) z)
  rw [Nat.succ_mul] at q'
  omega
theorem fit_dy {f : Co} {d e : Nat} (hf : Dg 6 f) (ft : Fit (terms f) d e) : Fit (terms (dy f)) d e := fun t ht => by
  obtain ⟨h1, h2, h3⟩ := terms_of ht
  have z : f t.1 (t.2.1 + 1) ≠ 0 := fun q => h3 (by rw [h2]; unfold dy; rw [q]; grind)
  have q' : t.1 * d + (t.2.1 + 1) * e ≤ 6 := ft _ (mem_terms (hf _ _ z) z)
  rw [Nat.succ_mul] at q'
  omega
theorem way_x {f g h : Co} {d e : Nat} (hf : Dg 6 f) (hg : Dg d g) (hh : Dg e h) (ft : Fit (terms f) d e) (x y : Rat) :
    ev (dx (put f g h)) x y = ev (put (dx f) g h) x y * ev (dx g) x y + ev (put (dy f) g h) x y * ev (dx h) x y := by
  rw [ev_put hg hh (fit_dx hf ft), ev_put hg hh (fit_dy hf ft), ev_dx (hf.lw (Nat.le_refl _)), ev_dy (hf.lw (Nat.le_refl _))]
  exact ev_dx_putl hg hh x y ft
theorem way_y {f g h : Co} {d e : Nat} (hf : Dg 6 f) (hg : Dg d g) (hh : Dg e h) (ft : Fit (terms f) d e) (x y : Rat) :
    ev (dy (put f g h)) x y = ev (put (dx f) g h) x y * ev (dy g) x y + ev (put (dy f) g h) x y * ev (dy h) x y := by
  rw [ev_put hg hh (fit_dx hf ft), ev_put hg hh (fit_dy hf ft), ev_dx (hf.lw (Nat.le_refl _)), ev_dy (hf.lw (Nat.le_refl _))]
  exact ev_dy_putl hg hh x y ft
/-- put back -/
theorem put_back {f g h g' h' : Co} (hf : Dg 6 f) (hg : Dg 1 g) (hh : Dg 1 h) (hg' : Dg 1 g') (hh' : Dg 1 h')
    (e1 : ∀ x y, ev g (ev g' x y) (ev h' x y) = x) (e2 : ∀ x y, ev h (ev g' x y) (ev h' x y) = y) : put (put f g h) g' h' = f := by
  have d1 : Dg 6 (put f g h) := put_dg hg hh (fit_of hf (Nat.le_refl _))
  have d2 : Dg 6 (put (put f g h) g' h') := put_dg hg' hh' (fit_of d1 (Nat.le_refl _))
  refine ev_inj (d2.lw (Nat.le_refl _)) (hf.lw (Nat.le_refl _)) fun x y => ?_
  rw [ev_put hg' hh' (fit_of d1 (Nat.le_refl _)), ev_put hg hh (fit_of hf (Nat.le_refl _)), e1, e2]
theorem put_same {f g h : Co} (hf : Dg 6 f) (hg : Dg 1 g) (hh : Dg 1 h) (e1 : ∀ x y, ev g x y = x) (e2 : ∀ x y, ev h x y = y) : put f g h = f := by
  refine ev_inj ((put_dg hg hh (fit_of hf (Nat.le_refl _))).lw (Nat.le_refl _)) (hf.lw (Nat.le_refl _)) fun x y => ?_
  rw [ev_put hg hh (fit_of hf (Nat.le_refl _)), e1, e2]
end Pk

namespace Pk
/-! ### how far from 0 -/
def ra (x : Rat) : Rat := if x < 0 then -x else x
theorem ra_nn (x : Rat) : 0 ≤ ra x := by unfold ra; grind
theorem ra_add (x y : Rat) : ra (x + y) ≤ ra x + ra y := by unfold ra; grind
theorem ra_zero : ra 0 = 0 := by unfold ra; grind
theorem ra_neg (x : Rat) : ra (-x) = ra x := by unfold ra; grind
theorem ra_of_nn {x : Rat} (h : 0 ≤ x) : ra x = x := by unfold ra; grind
theorem ra_mul (x y : Rat) : ra (x * y) = ra x * ra y := by
  have key : ∀ a b : Rat, 0 ≤ a → ra (a * b) = a * ra b := fun a b h => by
    by_cases q : b < 0
    · have h1 : 0 ≤ a * (-b) := Rat.mul_nonneg h (by grind)
      have e : ra b = -b := by unfold ra; rw [if_pos q]
      have e2 : ra (a * b) = -(a * b) := by
        rw [← ra_neg, ra_of_nn (by grind)]
      rw [e, e2]; grind
    · have h1 : 0 ≤ a * b := Rat.mul_nonneg h (by grind)
      rw [ra_of_nn h1, ra_of_nn (by grind)]
  by_cases q : x < 0
  · have e := key (-x) y (by grind)
    have e2 : ra x = -x := by unfold ra; rw [if_pos q]
    rw [e2, ← e, ← ra_neg (x * y)]
    congr 1
    grind
  · rw [key x y (by grind), ra_of_nn (show 0 ≤ x by grind)]
theorem ra_pow (x : Rat) (n : Nat) : ra (x ^ n) = ra x ^ n := by
  induction n with
  | zero => unfold ra; grind
  | succ n ih => rw [Rat.pow_succ, Rat.pow_succ, ra_mul, ih]
theorem ra_nat (n : Nat) : ra (n : Rat) = n := ra_of_nn Rat.natCast_nonneg
theorem mul_mono {a b c d : Rat} (h0 : 0 ≤ a) (h : a ≤ b) (h1 : 0 ≤ c) (h2 : c ≤ d) : a * c ≤ b * d :=
  Rat.le_trans (Rat.mul_le_mul_of_nonneg_right h h1) (Rat.mul_le_mul_of_nonneg_left h2 (Rat.le_trans h0 h))
theorem pow_mono_rat {a b : Rat} (h0 : 0 ≤ a) (h : a ≤ b) : ∀ n : Nat, a ^ n ≤ b ^ n
  | 0 => by rw [Rat.pow_zero, Rat.pow_zero]; exact Rat.le_refl
  | n + 1 => by
    rw [Rat.pow_succ, Rat.pow_succ]
    exact mul_mono (Rat.pow_nonneg h0) (pow_mono_rat h0 h n) h0 h
theorem sm_le {α : Type} {l : List α} {w v : α → Rat} (h : ∀ a ∈ l, w a ≤ v a) : sm l w ≤ sm l v := by
  induction l with
  | nil => exact Rat.le_refl
  | cons a l ih =>
    rw [sm_cons, sm_cons]
    have h1 := h a List.mem_cons_self
    have h2 := ih fun b hb => h b (List.mem_cons_of_mem _ hb)
    grind
theorem sm_nn {α : Type} {l : List α} {w : α → Rat} (h : ∀ a ∈ l, 0 ≤ w a) : 0 ≤ sm l w := by
  have e := sm_le (l := l) (w := fun _ => 0) (v := w) h
  rw [sm_zero] at e
  exact e
theorem ra_sm {α : Type} (l : List α) (w : α → Rat) : ra (sm l w) ≤ sm l (fun a => ra (w a)) := by
  induction l with
  | nil => rw [sm_nil, sm_nil, ra_zero]; exact Rat.le_refl
  | cons a l ih =>
    rw [sm_cons, sm_cons]
    have h1 := ra_add (w a) (sm l w)
    grind
/-! ### whole over D -/
def It (D : Nat) (r : Rat) : Prop := ∃ z : Int, r * (D : Rat) = (z : Rat)
theorem It.add {D : Nat} {r s : Rat} (h : It D r) (h2 : It D s) : It D (r + s) := by
  obtain ⟨z, e⟩ := h
  obtain ⟨y, e2⟩ := h2
  exact ⟨z + y, by rw [Rat.intCast_add, ← e, ← e2]; grind⟩
theorem It.zero (D : Nat) : It D 0 := ⟨0, by rw [Rat.zero_mul]; rfl⟩
theorem It.mul {D E : Nat} {r s : Rat} (h : It D r) (h2 : It E s) : It (D * E) (r * s) := by
  obtain ⟨z, e⟩ := h
  obtain ⟨y, e2⟩ := h2
  exact ⟨z * y, by rw [Rat.intCast_mul, ← e, ← e2, Rat.natCast_mul]; grind⟩
theorem It.lift {D : Nat} {r : Rat} (h : It D r) (E : Nat) : It (D * E) r := by
  obtain ⟨z, e⟩ := h
  exact ⟨z * (E : Int), by rw [Rat.intCast_mul, ← e, Rat.natCast_mul, Rat.intCast_natCast]; grind⟩
theorem It.one (D : Nat) : It D 1 := ⟨(D : Int), by rw [Rat.intCast_natCast]; grind⟩
theorem It.neg {D : Nat} {r : Rat} (h : It D r) : It D (-r) := by
  obtain ⟨z, e⟩ := h
  exact ⟨-z, by rw [Rat.intCast_neg, ← e]; grind⟩
theorem It.pow {D : Nat} {r : Rat} (h : It D r) : ∀ n, It (D ^ n) (r ^ n)
  | 0 => by rw [Rat.pow_zero]; exact It.one _
  | n + 1 => by rw [Rat.pow_succ, Nat.pow_succ]; exact (It.pow h n).mul h
theorem It.sm {α : Type} {D : Nat} {l : List α} {w : α → Rat} (h : ∀ a ∈ l, It D (w a)) : It D (sm l w) := by
  induction l with
  | nil => exact It.zero D
  | cons a l ih =>
    rw [sm_cons]
    exact (h a List.mem_cons_self).add (ih fun b hb => h b (List.mem_cons_of_mem _ hb))
theorem It.nat (n : Nat) : It 1 (n : Rat) := ⟨(n : Int), by rw [Rat.intCast_natCast]; grind⟩
theorem It.int (n : Int) : It 1 (n : Rat) := ⟨n, by grind⟩
/-- whole over D, with at most M above the line -/
structure IB (D M : Nat) (r : Rat) : Prop where
  pos : 0 < D
  it : It D r
  le : ra r * (D : Rat) ≤ (M : Rat)
theorem cast_le {m n : Nat} (h : m ≤ n) : (m : Rat) ≤ (n : Rat) := Rat.natCast_le_natCast.mpr h
theorem cast_nn (n : Nat) : (0 : Rat) ≤ (n : Rat) := Rat.natCast_nonneg
theorem IB.mono {D M N : Nat} {r : Rat} (h : IB D M r) (le : M ≤ N) : IB D N r := ⟨h.pos, h.it, Rat.le_trans h.le (cast_le le)⟩
theorem IB.lift {D M : Nat} {r : Rat} (h : IB D M r) {E : Nat} (hE : 0 < E) : IB (D * E) (M * E) r :=
  ⟨Nat.mul_pos h.pos hE, h.it.lift E, by
    rw [Rat.natCast_mul, Rat.natCast_mul]
    have := Rat.mul_le_mul_of_nonneg_right h.le (cast_nn E)
    grind⟩
theorem IB.add {D M N : Nat} {r s : Rat} (h : IB D M r) (h2 : IB D N s) : IB D (M + N) (r + s) :=
  ⟨h.pos, h.it.add h2.it, by
    rw [Rat.natCast_add]
    have a := Rat.mul_le_mul_of_nonneg_right (ra_add r s) (cast_nn D)
    have b := h.le
    have c := h2.le
    grind⟩
theorem IB.neg {D M : Nat} {r : Rat} (h : IB D M r) : IB D M (-r) := ⟨h.pos, h.it.neg, by rw [ra_neg]; exact h.le⟩
theorem IB.mul {D E M N : Nat} {r s : Rat} (h : IB D M r) (h2 : IB E N s) : IB (D * E) (M * N) (r * s) :=
  ⟨Nat.mul_pos h.pos h2.pos, h.it.mul h2.it, by
    rw [Rat.natCast_mul, Rat.natCast_mul, ra_mul]
    have := mul_mono (Rat.mul_nonneg (ra_nn r) (cast_nn D)) h.le (Rat.mul_nonneg (ra_nn s) (cast_nn E)) h2.le
    grind⟩
/-- numbers of at most n bits above and below the line -/
structure NB (n : Nat) (r : Rat) : Prop where
  num : r.num.natAbs < 2 ^ n
  den : r.den < 2 ^ n
theorem NB.mono {m n : Nat} {r : Rat} (h : NB m r) (le : m ≤ n) : NB n r :=
  ⟨Nat.lt_of_lt_of_le h.num (Nat.pow_le_pow_right (by omega) le), Nat.lt_of_lt_of_le h.den (Nat.pow_le_pow_right (by omega) le)⟩
theorem IB.num_den {D M : Nat} {r : Rat} (h : IB D M r) : r.num.natAbs ≤ M ∧ r.den ≤ D := by
  obtain ⟨z, e⟩ := h.it
  have hD : (D : Int) ≠ 0 := by have := h.pos; omega
  have e1 : r = Rat.divInt z (D : Int) := by
    rw [Rat.divInt_eq_div, Rat.intCast_natCast, ← e, Rat.mul_div_cancel]
    exact fun q => hD (by
      have := Rat.natCast_eq_zero_iff.mp q
      omega)
  have e2 := Rat.num_divInt_den r
  have e3 : r.num * (D : Int) = z * (r.den : Int) := by
    rw [e1] at e2
    have q := (Rat.divInt_eq_divInt_iff (by have := (Rat.divInt z (D : Int)).den_nz; omega) hD).mp e2
    rw [← e1] at q
    exact q
  have dv : r.den ∣ D := by
    have c : Nat.Coprime r.den r.num.natAbs := r.reduced.symm
    refine c.dvd_of_dvd_mul_left (n := D) ?_
    have q := congrArg Int.natAbs e3
    rw [Int.natAbs_mul, Int.natAbs_mul, Int.natAbs_natCast, Int.natAbs_natCast] at q
    exact ⟨z.natAbs, by rw [q]; exact Nat.mul_comm _ _⟩
  have hle : r.den ≤ D := Nat.le_of_dvd h.pos dv
  refine ⟨?_, hle⟩
  have zM : z.natAbs ≤ M := by
    have q := h.le
    have e4 : ra r * (D : Rat) = ra (r * (D : Rat)) := by rw [ra_mul, ra_nat]
    rw [e4, e] at q
    have e5 : ra (z : Rat) = ((z.natAbs : Nat) : Rat) := by
      by_cases s : z < 0
      · have : (z : Rat) < 0 := Rat.intCast_lt_intCast.mpr s
        unfold ra
        rw [if_pos this, ← Rat.intCast_natCast, ← Rat.intCast_neg]
        congr 1
        omega
      · have : (0 : Rat) ≤ (z : Rat) := Rat.intCast_le_intCast.mpr (show (0 : Int) ≤ z by omega)
        rw [ra_of_nn this, ← Rat.intCast_natCast]
        congr 1
        omega
    rw [e5] at q
    exact Rat.natCast_le_natCast.mp q
  obtain ⟨k, hk⟩ := dv
  have kpos : 0 < k := by
    rcases Nat.eq_zero_or_pos k with q | q
    · rw [q, Nat.mul_zero] at hk
      have := h.pos
      omega
    · exact q
  have q := congrArg Int.natAbs e3
  rw [Int.natAbs_mul, Int.natAbs_mul, Int.natAbs_natCast, Int.natAbs_natCast, hk] at q
  have q2 : r.den * (r.num.natAbs * k) = r.den * z.natAbs := by
    rw [← Nat.mul_assoc, Nat.mul_comm r.den, Nat.mul_assoc, q, Nat.mul_comm]
  have q3 := Nat.eq_of_mul_eq_mul_left r.den_pos q2
  have q4 : r.num.natAbs ≤ r.num.natAbs * k := Nat.le_mul_of_pos_right _ kpos
  omega
theorem IB.nb {D M n : Nat} {r : Rat} (h : IB D M r) (h1 : D < 2 ^ n) (h2 : M < 2 ^ n) : NB n r :=
  ⟨Nat.lt_of_le_of_lt h.num_den.1 h2, Nat.lt_of_le_of_lt h.num_den.2 h1⟩
/-! ### sizes of terms -/
def n1 (l : List Tm) : Rat := sm l (fun t => ra t.2.2)
theorem n1_nn (l : List Tm) : 0 ≤ n1 l := sm_nn fun _ _ => ra_nn _
theorem n1_append (l m : List Tm) : n1 (l ++ m) = n1 l + n1 m := sm_append _ _ _
theorem n1_cons (t : Tm) (l : List Tm) : n1 (t :: l) = ra t.2.2 + n1 l := sm_cons _ _ _
theorem n1_prodl (l m : List Tm) : n1 (prodl l m) = n1 l * n1 m := by
  unfold n1 prodl
  rw [sm_flatMap]
  have e : ∀ s ∈ l, sm (m.map (mulT s)) (fun t => ra t.2.2) = sm m (fun t => ra t.2.2) * ra s.2.2 := fun s _ => by
    rw [sm_map, show sm m (fun t => ra (mulT s t).2.2) = sm m (fun t => ra s.2.2 * ra t.2.2) from sm_congr fun t _ => ra_mul _ _, sm_mul]
    grind
  rw [sm_congr e, sm_mul]
  grind
/-- D below the line, together at most M above -/
structure SL (D M : Nat) (l : List Tm) : Prop where
  pos : 0 < D
  it : ∀ t ∈ l, It D t.2.2
  le : n1 l * (D : Rat) ≤ (M : Rat)
theorem SL.pre {D M : Nat} {l m : List Tm} (h : SL D M (l ++ m)) : SL D M l :=
  ⟨h.pos, fun t ht => h.it t (List.mem_append_left _ ht), by
    have q := h.le
    rw [n1_append] at q
    have q2 := Rat.mul_nonneg (n1_nn m) (cast_nn D)
    grind⟩
theorem SL.mono {D M N : Nat} {l : List Tm} (h : SL D M l) (le : M ≤ N) : SL D N l := ⟨h.pos, h.it, Rat.le_trans h.le (cast_le le)⟩
theorem SL.append {D M N : Nat} {l m : List Tm} (h : SL D M l) (h2 : SL D N m) : SL D (M + N) (l ++ m) :=
  ⟨h.pos, fun t ht => (List.mem_append.mp ht).elim (h.it t) (h2.it t), by
    rw [n1_append, Rat.natCast_add]
    have a := h.le
    have b := h2.le
    grind⟩
theorem SL.prodl {D E M N : Nat} {l m : List Tm} (h : SL D M l) (h2 : SL E N m) : SL (D * E) (M * N) (prodl l m) :=
  ⟨Nat.mul_pos h.pos h2.pos, fun t ht => by
    obtain ⟨s, hs, u, hu, rfl⟩ := prodl_mem ht
    exact (h.it s hs).mul (h2.it u hu), by
    rw [n1_prodl, Rat.natCast_mul, Rat.natCast_mul]
    have := mul_mono (Rat.mul_nonneg (n1_nn l) (cast_nn D)) h.le (Rat.mul_nonneg (n1_nn m) (cast_nn E)) h2.le
    grind⟩
theorem ra_co (l : List Tm) (i j : Nat) : ra (co l i j) ≤ n1 l := by
  refine Rat.le_trans (ra_sm _ _) (sm_le fun t _ => ?_)
  by_cases q : t.1 = i ∧ t.2.1 = j
  · rw [if_pos q]; exact Rat.le_refl
  · rw [if_neg q, ra_zero]; exact ra_nn _
theorem It.co {D : Nat} {l : List Tm} (h : ∀ t ∈ l, It D t.2.2) (i j : Nat) : It D (co l i j) := It.sm fun t ht => by
  by_cases q : t.1 = i ∧ t.2.1 = j
  · rw [if_pos q]; exact h t ht
  · rw [if_neg q]; exact It.zero D
theorem SL.co {D M : Nat} {l : List Tm} (h : SL D M l) (i j : Nat) : IB D M (co l i j) :=
  ⟨h.pos, It.co h.it i j, Rat.le_trans (Rat.mul_le_mul_of_nonneg_right (ra_co l i j) (cast_nn D)) h.le⟩
theorem SL.term {D M : Nat} {l : List Tm} (h : SL D M l) {t : Tm} (ht : t ∈ l) : IB D M t.2.2 :=
  ⟨h.pos, h.it t ht, by
    refine Rat.le_trans (Rat.mul_le_mul_of_nonneg_right ?_ (cast_nn D)) h.le
    obtain ⟨a, b, rfl⟩ := List.mem_iff_append.mp ht
    rw [n1_append, n1_cons]
    have := n1_nn a
    have := n1_nn b
    grind⟩
/-! values -/
theorem pow_nat_lift {E m : Nat} (h : E ≤ m) {i j : Nat} (le : i + j ≤ 6) {x y : Rat} (hx : IB E m x) (hy : IB E m y) : IB (E ^ 6) (m ^ 6) (x ^ i * y ^ j) := by
  have px : ∀ n, IB (E ^ n) (m ^ n) (x ^ n) := fun n => by
    induction n with
    | zero => exact ⟨Nat.pow_pos (n := 0) hx.pos, by rw [Rat.pow_zero]; exact It.one _, by rw [Rat.pow_zero, Nat.pow_zero, Nat.pow_zero]; unfold ra; grind⟩
    | succ n ih => rw [Rat.pow_succ, Nat.pow_succ, Nat.pow_succ]; exact ih.mul hx
  have py : ∀ n, IB (E ^ n) (m ^ n) (y ^ n) := fun n => by
    induction n with
    | zero => exact ⟨Nat.pow_pos (n := 0) hx.pos, by rw [Rat.pow_zero]; exact It.one _, by rw [Rat.pow_zero, Nat.pow_zero, Nat.pow_zero]; unfold ra; grind⟩
    | succ n ih => rw [Rat.pow_succ, Nat.pow_succ, Nat.pow_succ]; exact ih.mul hy
  have q := ((px i).mul (py j)).lift (Nat.pow_pos (n := 6 - (i + j)) hx.pos)
  rw [← Nat.pow_add, ← Nat.pow_add, ← Nat.pow_add, show i + j + (6 - (i + j)) = 6 by omega] at q
  refine q.mono ?_
  have e : m ^ 6 = m ^ (i + j) * m ^ (6 - (i + j)) := by rw [← Nat.pow_add, show i + j + (6 - (i + j)) = 6 by omega]
  rw [e]
  exact Nat.mul_le_mul_left _ (Nat.pow_le_pow_left h _)
theorem SL.evl {D M E m : Nat} {l : List Tm} (h : SL D M l) (lo : Low l) (le : E ≤ m) {x y : Rat} (hx : IB E m x) (hy : IB E m y) : IB (D * E ^ 6) (M * m ^ 6) (evl l x y) := by
  refine ⟨Nat.mul_pos h.pos (Nat.pow_pos hx.pos), It.sm fun t ht => (h.it t ht).mul (pow_nat_lift le (lo t ht) hx hy).it, ?_⟩
  have q : ra (Pk.evl l x y) * ((E ^ 6 : Nat) : Rat) ≤ n1 l * ((m ^ 6 : Nat) : Rat) := by
    have a : ra (Pk.evl l x y) ≤ sm l (fun t => ra (t.2.2 * (x ^ t.1 * y ^ t.2.1))) := ra_sm _ _
    have b := Rat.mul_le_mul_of_nonneg_right a (cast_nn (E ^ 6))
    refine Rat.le_trans b ?_
    rw [Rat.mul_comm, ← sm_mul, Rat.mul_comm]
    unfold n1
    rw [← sm_mul]
    refine sm_le fun t ht => ?_
    have c := (pow_nat_lift le (lo t ht) hx hy).le
    rw [ra_mul]
    have d := Rat.mul_le_mul_of_nonneg_left c (ra_nn t.2.2)
    grind
  have q2 := mul_mono (Rat.mul_nonneg (ra_nn _) (cast_nn _)) q (cast_nn D) (Rat.le_refl (a := (D : Rat)))
  have q3 := Rat.mul_le_mul_of_nonneg_right h.le (cast_nn (m ^ 6))
  rw [Rat.natCast_mul, Rat.natCast_mul]
  grind
/-! ### sizes of coefficients -/
def L1 (f : Co) : Rat := sm tri (fun k => ra (f k.1 k.2))
theorem n1_terms (f : Co) : n1 (terms f) = L1 f := by
  unfold n1 terms L1
  rw [sm_filterMap]
  refine sm_congr fun k _ => ?_
  by_cases e : f k.1 k.2 = 0
  · rw [if_pos e, e, ra_zero]
  · rw [if_neg e]
theorem L1_nn (f : Co) : 0 ≤ L1 f := sm_nn fun _ _ => ra_nn _
theorem L1_add (f g : Co) : L1 (add f g) ≤ L1 f + L1 g := by
  unfold L1
  rw [← sm_add]
  exact sm_le fun k _ => ra_add _ _
theorem L1_scl (f : Co) (c : Rat) : L1 (scl f c) = L1 f * ra c := by
  unfold L1
  rw [show sm tri (fun k => ra (scl f c k.1 k.2)) = sm tri (fun k => ra c * ra (f k.1 k.2)) from sm_congr fun k _ => by show ra (f k.1 k.2 * c) = _; rw [ra_mul]; grind, sm_mul]
  grind
theorem L1_congr {f g : Co} (h : ∀ i j, i + j ≤ 6 → f i j = g i j) : L1 f = L1 g := sm_congr fun k hk => by rw [h k.1 k.2 (tri_le k hk)]
theorem L1_one {i j : Nat} (c : Rat) : L1 (co [(i, j, c)]) ≤ ra c := by
  unfold L1
  by_cases le : i + j ≤ 6
  · have e := sm_one tri_nd (tri_mem le) (ra c) (fun _ => 1)
    refine Rat.le_trans (sm_le (v := fun k => (if k = (i, j) then ra c else 0) * 1) fun k _ => ?_) (by rw [e]; grind)
    rw [co_one]
    by_cases q : i = k.1 ∧ j = k.2
    · rw [if_pos q, if_pos (Prod.ext q.1.symm q.2.symm)]; grind
    · rw [if_neg q, if_neg (fun z => q ⟨by rw [z], by rw [z]⟩), ra_zero]; grind
  · rw [show sm tri (fun k => ra (co [(i, j, c)] k.1 k.2)) = sm tri (fun _ => 0) from sm_congr fun k hk => by
      have := tri_le k hk
      rw [co_one, if_neg (by omega), ra_zero], sm_zero]
    exact ra_nn c
theorem L1_co (l : List Tm) : L1 (co l) ≤ n1 l := by
  induction l with
  | nil => unfold L1; rw [show sm tri (fun k => ra (co [] k.1 k.2)) = sm tri (fun _ => 0) from sm_congr fun k _ => ra_zero, sm_zero]; exact Rat.le_refl
  | cons t l ih =>
    have e : L1 (co (t :: l)) = L1 (add (co [t]) (co l)) := L1_congr fun i j _ => by
      show co (t :: l) i j = co [t] i j + co l i j
      exact co_append [t] l i j
    rw [e, n1_cons]
    have a := L1_add (co [t]) (co l)
    have b : L1 (co [t]) ≤ ra t.2.2 := L1_one t.2.2
    grind
theorem L1_mul (f g : Co) : L1 (mul f g) ≤ L1 f * L1 g := by
  have a := L1_co (prodl (terms f) (terms g))
  rw [n1_prodl, n1_terms, n1_terms] at a
  exact a
theorem L1_cst (c : Rat) : L1 (cst c) ≤ ra c := by
  have e : L1 (cst c) = L1 (co [(0, 0, c)]) := L1_congr fun i j _ => by
    rw [co_one]; unfold cst
    by_cases q : i = 0 ∧ j = 0
    · rw [if_pos q, if_pos ⟨q.1.symm, q.2.symm⟩]
    · rw [if_neg q, if_neg fun z => q ⟨z.1.symm, z.2.symm⟩]
  rw [e]
  exact L1_one c
theorem L1_lin (a b c : Rat) : L1 (lin a b c) ≤ ra a + ra b + ra c := by
  have e : L1 (lin a b c) = L1 (co [(1, 0, a), (0, 1, b), (0, 0, c)]) := L1_congr fun i j _ => by
    rw [co_cons, co_cons, co_one]
    unfold lin
    show _ = (if 1 = i ∧ 0 = j then a else 0) + ((if 0 = i ∧ 1 = j then b else 0) + (if 0 = i ∧ 0 = j then c else 0))
    by_cases q : i = 1 ∧ j = 0
    · rw [if_pos q, if_pos (by omega), if_neg (by omega), if_neg (by omega)]; grind
    · rw [if_neg q, if_neg (show ¬ (1 = i ∧ 0 = j) by omega)]
      by_cases q2 : i = 0 ∧ j = 1
      · rw [if_pos q2, if_pos (by omega), if_neg (by omega)]; grind
      · rw [if_neg q2, if_neg (show ¬ (0 = i ∧ 1 = j) by omega)]
        by_cases q3 : i = 0 ∧ j = 0
        · rw [if_pos q3, if_pos (by omega)]; grind
        · rw [if_neg q3, if_neg (by omega)]; grind
  rw [e]
  have q := L1_co [(1, 0, a), (0, 1, b), (0, 0, c)]
  rw [n1_cons, n1_cons, n1_cons] at q
  have z : n1 ([] : List Tm) = 0 := rfl
  rw [z] at q
  have q' : L1 (co [(1, 0, a), (0, 1, b), (0, 0, c)]) ≤ ra a + (ra b + (ra c + 0)) := q
  grind
/-- D below the line, together at most M above -/
structure SC (D M : Nat) (f : Co) : Prop where
  pos : 0 < D
  it : ∀ i j, It D (f i j)
  le : L1 f * (D : Rat) ≤ (M : Rat)
theorem SC.sl {D M : Nat} {f : Co} (h : SC D M f) : SL D M (terms f) := ⟨h.pos, fun t ht => by rw [(terms_of ht).2.1]; exact h.it _ _, by rw [n1_terms]; exact h.le⟩
theorem SL.sc {D M : Nat} {l : List Tm} (h : SL D M l) : SC D M (Pk.co l) := ⟨h.pos, It.co h.it, Rat.le_trans (Rat.mul_le_mul_of_nonneg_right (L1_co l) (cast_nn D)) h.le⟩
theorem SC.at {D M : Nat} {f : Co} (h : SC D M f) (lw : Lw f) (i j : Nat) : IB D M (f i j) := by
  have q := h.sl.co i j
  rw [co_terms_eq lw] at q
  exact q
theorem SC.mono {D M N : Nat} {f : Co} (h : SC D M f) (le : M ≤ N) : SC D N f := ⟨h.pos, h.it, Rat.le_trans h.le (cast_le le)⟩
theorem SC.lift {D M : Nat} {f : Co} (h : SC D M f) {E : Nat} (hE : 0 < E) : SC (D * E) (M * E) f :=
  ⟨Nat.mul_pos h.pos hE, fun i j => (h.it i j).lift E, by
    rw [Rat.natCast_mul, Rat.natCast_mul]
    have := Rat.mul_le_mul_of_nonneg_right h.le (cast_nn E)
    grind⟩
theorem SC.add {D M N : Nat} {f g : Co} (h : SC D M f) (h2 : SC D N g) : SC D (M + N) (add f g) :=
  ⟨h.pos, fun i j => (h.it i j).add (h2.it i j), by
    rw [Rat.natCast_add]
    have a := Rat.mul_le_mul_of_nonneg_right (L1_add f g) (cast_nn D)
    have b := h.le
    have c := h2.le
    grind⟩
theorem SC.scl {D E M N : Nat} {f : Co} {c : Rat} (h : SC D M f) (h2 : IB E N c) : SC (D * E) (M * N) (scl f c) :=
  ⟨Nat.mul_pos h.pos h2.pos, fun i j => (h.it i j).mul h2.it, by
    rw [L1_scl, Rat.natCast_mul, Rat.natCast_mul]
    have := mul_mono (Rat.mul_nonneg (L1_nn f) (cast_nn D)) h.le (Rat.mul_nonneg (ra_nn c) (cast_nn E)) h2.le
    grind⟩
theorem SC.mul {D E M N : Nat} {f g : Co} (h : SC D M f) (h2 : SC E N g) : SC (D * E) (M * N) (mul f g) := (h.sl.prodl h2.sl).sc
theorem SC.cst1 : SC 1 1 (cst 1) := ⟨by decide, fun i j => by
  unfold cst
  by_cases q : i = 0 ∧ j = 0
  · rw [if_pos q]; exact It.one 1
  · rw [if_neg q]; exact It.zero 1, by
  have a := L1_cst 1
  have e : ra 1 = 1 := by unfold ra; grind
  rw [e] at a
  show L1 (cst 1) * ((1 : Nat) : Rat) ≤ ((1 : Nat) : Rat)
  grind⟩
theorem SC.zero {D : Nat} (h : 0 < D) (M : Nat) : SC D M (cst 0) := ⟨h, fun i j => by
  have e : cst 0 i j = 0 := by unfold cst; by_cases q : i = 0 ∧ j = 0 <;> simp [q]
  rw [e]; exact It.zero D, by
  have a := L1_cst 0
  rw [ra_zero] at a
  have b := Rat.mul_le_mul_of_nonneg_right a (cast_nn D)
  have c := cast_nn M
  grind⟩
theorem SC.pow {E m : Nat} {g : Co} (h : SC E m g) : ∀ n, SC (E ^ n) (m ^ n) (pw g n)
  | 0 => SC.cst1
  | n + 1 => by rw [Nat.pow_succ, Nat.pow_succ]; exact (SC.pow h n).mul h
/-- a term of what is put in -/
theorem SC.both {E m : Nat} {g h : Co} (hg : SC E m g) (hh : SC E m h) (le : E ≤ m) {i j : Nat} (l6 : i + j ≤ 6) : SC (E ^ 6) (m ^ 6) (Pk.mul (pw g i) (pw h j)) := by
  have q := ((hg.pow i).mul (hh.pow j)).lift (Nat.pow_pos (n := 6 - (i + j)) hg.pos)
  rw [← Nat.pow_add, ← Nat.pow_add, ← Nat.pow_add, show i + j + (6 - (i + j)) = 6 by omega] at q
  refine q.mono ?_
  have e : m ^ 6 = m ^ (i + j) * m ^ (6 - (i + j)) := by rw [← Nat.pow_add, show i + j + (6 - (i + j)) = 6 by omega]
  rw [e]
  exact Nat.mul_le_mul_left _ (Nat.pow_le_pow_left le _)
theorem SC.putl {D E m : Nat} {g h : Co} (hg : SC E m g) (hh : SC E m h) (le : E ≤ m) (hD : 0 < D) : ∀ {l : List Tm} {M : Nat}, Low l → SL D M l → SC (D * E ^ 6) (M * m ^ 6) (putl g h l)
  | [], M, _, _ => SC.zero (Nat.mul_pos hD (Nat.pow_pos hg.pos)) _
  | t :: r, M, lo, s => by
    have it1 := s.it t List.mem_cons_self
    have q := SC.putl hg hh le hD (l := r) (M := M) (fun u hu => lo u (List.mem_cons_of_mem _ hu)) ⟨hD, fun u hu => s.it u (List.mem_cons_of_mem _ hu), by
      have a := s.le
      rw [n1_cons] at a
      have b := Rat.mul_nonneg (ra_nn t.2.2) (cast_nn D)
      grind⟩
    have b := hg.both hh le (lo t List.mem_cons_self)
    refine ⟨q.pos, fun i j => ((by rw [Nat.mul_comm]; exact (b.it i j).mul it1 : It (D * E ^ 6) (Pk.mul (pw g t.1) (pw h t.2.1) i j * t.2.2))).add (q.it i j), ?_⟩
    exact SC.putl_le hg hh le hD lo s
where
  SC.putl_le {D E m : Nat} {g h : Co} (hg : SC E m g) (hh : SC E m h) (le : E ≤ m) (hD : 0 < D) {l : List Tm} {M : Nat} (lo : Low l) (s : SL D M l) : L1 (Pk.putl g h l) * ((D * E ^ 6 : Nat) : Rat) ≤ ((M * m ^ 6 : Nat) : Rat) := by
    have key : ∀ l : List Tm, Low l → L1 (Pk.putl g h l) * ((E ^ 6 : Nat) : Rat) ≤ n1 l * ((m ^ 6 : Nat) : Rat) := by
      intro l
      induction l with
      | nil =>
        intro _
        have a := L1_cst 0
        rw [ra_zero] at a
        have b := Rat.mul_le_mul_of_nonneg_right a (cast_nn (E ^ 6))
        show L1 (cst 0) * _ ≤ 0 * _
        grind
      | cons t r ih =>
        intro lo
        have i1 := ih fun u hu => lo u (List.mem_cons_of_mem _ hu)
        have b := (hg.both hh le (lo t List.mem_cons_self)).le
        have c := L1_add (Pk.scl (Pk.mul (pw g t.1) (pw h t.2.1)) t.2.2) (Pk.putl g h r)
        have d := Rat.mul_le_mul_of_nonneg_right c (cast_nn (E ^ 6))
        rw [L1_scl] at d
        have e := Rat.mul_le_mul_of_nonneg_right b (ra_nn t.2.2)
        rw [n1_cons]
        show L1 (Pk.add (Pk.scl (Pk.mul (pw g t.1) (pw h t.2.1)) t.2.2) (Pk.putl g h r)) * _ ≤ _
        grind
    have a := Rat.mul_le_mul_of_nonneg_right (key l lo) (cast_nn D)
    have b := Rat.mul_le_mul_of_nonneg_right s.le (cast_nn (m ^ 6))
    rw [Rat.natCast_mul, Rat.natCast_mul]
    grind
theorem SC.put {D M E m : Nat} {f g h : Co} (hf : SC D M f) (hg : SC E m g) (hh : SC E m h) (le : E ≤ m) : SC (D * E ^ 6) (M * m ^ 6) (put f g h) :=
  SC.putl hg hh le hf.pos (low_terms f) hf.sl
/-- left to right -/
theorem putl_snoc (g h : Co) (l : List Tm) (t : Tm) : putl g h (l ++ [t]) = Pk.add (putl g h l) (Pk.scl (Pk.mul (pw g t.1) (pw h t.2.1)) t.2.2) := by
  induction l with
  | nil =>
    funext i j
    show Pk.scl (Pk.mul (pw g t.1) (pw h t.2.1)) t.2.2 i j + cst 0 i j = cst 0 i j + _
    grind
  | cons s l ih =>
    funext i j
    show _ + putl g h (l ++ [t]) i j = (_ + putl g h l i j) + _
    rw [ih]
    show _ + (putl g h l i j + _) = _
    grind
theorem n1_dxl {l : List Tm} (h : Low l) : n1 (dxl l) ≤ 6 * n1 l := by
  unfold n1 dxl
  rw [sm_filterMap, ← sm_mul]
  refine sm_le fun t ht => ?_
  have b := ra_nn t.2.2
  by_cases z : t.1 = 0
  · rw [if_pos z]
    show (0 : Rat) ≤ _
    grind
  · rw [if_neg z]
    show ra ((t.1 : Rat) * t.2.2) ≤ _
    rw [ra_mul, ra_nat]
    have a : ((t.1 : Nat) : Rat) ≤ ((6 : Nat) : Rat) := cast_le (by have := h t ht; omega)
    exact Rat.mul_le_mul_of_nonneg_right a b
theorem n1_dyl {l : List Tm} (h : Low l) : n1 (dyl l) ≤ 6 * n1 l := by
  unfold n1 dyl
  rw [sm_filterMap, ← sm_mul]
  refine sm_le fun t ht => ?_
  have b := ra_nn t.2.2
  by_cases z : t.2.1 = 0
  · rw [if_pos z]
    show (0 : Rat) ≤ _
    grind
  · rw [if_neg z]
    show ra ((t.2.1 : Rat) * t.2.2) ≤ _
    rw [ra_mul, ra_nat]
    have a : ((t.2.1 : Nat) : Rat) ≤ ((6 : Nat) : Rat) := cast_le (by have := h t ht; omega)
    exact Rat.mul_le_mul_of_nonneg_right a b
theorem SC.dx {D M : Nat} {f : Co} (h : SC D M f) (lw : Lw f) : SC D (M * 6) (dx f) := by
  have e : Pk.dx f = Pk.co (dxl (terms f)) := by rw [co_dxl, co_terms_eq lw]
  rw [e]
  refine SL.sc ⟨h.pos, fun t ht => ?_, ?_⟩
  · obtain ⟨s, hs, q⟩ := List.mem_filterMap.mp ht
    by_cases z : s.1 = 0
    · rw [if_pos z] at q; cases q
    · rw [if_neg z] at q; cases q
      have r := (It.nat s.1).mul (h.sl.it s hs)
      rw [Nat.one_mul] at r
      exact r
  · have a := Rat.mul_le_mul_of_nonneg_right (n1_dxl (low_terms f)) (cast_nn D)
    have b := h.sl.le
    rw [Rat.natCast_mul]
    have c : ((6 : Nat) : Rat) = 6 := rfl
    rw [c]
    grind
theorem SC.dy {D M : Nat} {f : Co} (h : SC D M f) (lw : Lw f) : SC D (M * 6) (dy f) := by
  have e : Pk.dy f = Pk.co (dyl (terms f)) := by rw [co_dyl, co_terms_eq lw]
  rw [e]
  refine SL.sc ⟨h.pos, fun t ht => ?_, ?_⟩
  · obtain ⟨s, hs, q⟩ := List.mem_filterMap.mp ht
    by_cases z : s.2.1 = 0
    · rw [if_pos z] at q; cases q
    · rw [if_neg z] at q; cases q
      have r := (It.nat s.2.1).mul (h.sl.it s hs)
      rw [Nat.one_mul] at r
      exact r
  · have a := Rat.mul_le_mul_of_nonneg_right (n1_dyl (low_terms f)) (cast_nn D)
    have b := h.sl.le
    rw [Rat.natCast_mul]
    have c : ((6 : Nat) : Rat) = 6 := rfl
    rw [c]
    grind
end Pk

namespace Pk
/-! ### a number from two integers -/
def part (a b : Int) : Int := if b < 0 then -((Int.gcd a b : Nat) : Int) else ((Int.gcd a b : Nat) : Int)
theorem gcd_pos {a b : Int} (hb : b ≠ 0) : 0 < Int.gcd a b := Int.gcd_pos_of_ne_zero_right a hb
theorem part_ne {a b : Int} (hb : b ≠ 0) : part a b ≠ 0 := by
  have := gcd_pos (a := a) hb
  unfold part
  by_cases h : b < 0
  · rw [if_pos h]; omega
  · rw [if_neg h]; omega
theorem part_abs (a b : Int) : (part a b).natAbs = Int.gcd a b := by
  unfold part
  by_cases h : b < 0
  · rw [if_pos h]; omega
  · rw [if_neg h]; omega
theorem gcd_le {a b : Int} (hb : b ≠ 0) : Int.gcd a b ≤ b.natAbs := Nat.le_of_dvd (by omega) (Int.gcd_dvd_natAbs_right a b)
theorem fdiv_of {a p q : Int} (hp : p ≠ 0) (h : a = p * q) : a.fdiv p = q := by
  rw [h]; exact Int.mul_fdiv_cancel_left q hp
theorem low_pair {a b : Int} (hb : b ≠ 0) : a.fdiv (part a b) = (Rat.divInt a b).num ∧ b.fdiv (part a b) = ((Rat.divInt a b).den : Int) := by
  have ha := Int.gcd_dvd_left a b
  have hb' := Int.gcd_dvd_right a b
  have g0 := gcd_pos (a := a) hb
  have pz := part_ne (a := a) hb
  have e : Int.gcd b a = Int.gcd a b := Int.gcd_comm b a
  rw [Rat.den_divInt, Rat.num_divInt, if_neg hb, e]
  unfold part at pz ⊢
  generalize Int.gcd a b = g at *
  obtain ⟨x, hx⟩ := ha
  obtain ⟨y, hy⟩ := hb'
  have gz : (g : Int) ≠ 0 := by omega
  have ny : b.natAbs = g * y.natAbs := by rw [hy, Int.natAbs_mul, Int.natAbs_natCast]
  rw [ny, Nat.mul_div_cancel_left _ g0]
  by_cases h : b < 0
  · rw [if_pos h] at pz ⊢
    rw [Int.sign_eq_neg_one_of_neg h]
    have yn : y < 0 := by
      rcases Int.lt_or_le y 0 with z | z
      · exact z
      · have := Int.mul_nonneg (show (0 : Int) ≤ (g : Int) by omega) z
        omega
    constructor
    · rw [fdiv_of pz (q := -x) (by rw [hx]; grind), show -1 * a = (g : Int) * (-x) by rw [hx]; grind, Int.mul_ediv_cancel_left _ gz]
    · rw [fdiv_of pz (q := -y) (by rw [hy]; grind)]
      omega
  · rw [if_neg h] at pz ⊢
    rw [Int.sign_eq_one_of_pos (by omega)]
    have yn : 0 ≤ y := by
      rcases Int.lt_or_le y 0 with z | z
      · have := Int.mul_neg_of_pos_of_neg (show (0 : Int) < (g : Int) by omega) z
        omega
      · exact z
    constructor
    · rw [fdiv_of pz hx, show 1 * a = (g : Int) * x by rw [hx]; grind, Int.mul_ediv_cancel_left _ gz]
    · rw [fdiv_of pz hy]
      omega
theorem low_one {a b : Int} (hb : b ≠ 0) : b = part a b ↔ (Rat.divInt a b).den = 1 := by
  have q := (low_pair (a := a) hb).2
  have pz := part_ne (a := a) hb
  constructor
  · intro h
    have e : b.fdiv (part a b) = 1 := fdiv_of pz (by omega)
    omega
  · intro h
    obtain ⟨b', hb'⟩ : part a b ∣ b := by
      unfold part
      by_cases s : b < 0
      · rw [if_pos s]; exact Int.neg_dvd.mpr (Int.gcd_dvd_right a b)
      · rw [if_neg s]; exact Int.gcd_dvd_right a b
    have e : b.fdiv (part a b) = b' := fdiv_of pz hb'
    rw [e, h] at q
    rw [q] at hb'
    omega
theorem add_eq (r s : Rat) : Rat.divInt (r.num * (s.den : Int) + s.num * (r.den : Int)) ((r.den : Int) * (s.den : Int)) = r + s := by
  rw [← Rat.divInt_add_divInt _ _ (by have := r.den_nz; omega) (by have := s.den_nz; omega), Rat.num_divInt_den, Rat.num_divInt_den]
theorem mul_eq (r s : Rat) : Rat.divInt (r.num * s.num) ((r.den : Int) * (s.den : Int)) = r * s := by
  rw [← Rat.divInt_mul_divInt, Rat.num_divInt_den, Rat.num_divInt_den]
theorem div_eq (r s : Rat) : Rat.divInt (r.num * (s.den : Int)) ((r.den : Int) * s.num) = r / s := by
  rw [← Rat.divInt_mul_divInt, Rat.num_divInt_den, Rat.div_def, Rat.inv_def]
theorem dd_ne (r s : Rat) : ((r.den : Int) * (s.den : Int)) ≠ 0 := Int.mul_ne_zero (by have := r.den_nz; omega) (by have := s.den_nz; omega)
theorem num_ne {s : Rat} (h : s ≠ 0) : s.num ≠ 0 := fun e => h (Rat.num_eq_zero.mp e)
/-! ### crude sizes -/
theorem nb_divInt {a b : Int} {n : Nat} (hb : b ≠ 0) (h1 : a.natAbs < 2 ^ n) (h2 : b.natAbs < 2 ^ n) : NB n (Rat.divInt a b) := by
  have e : Int.gcd b a = Int.gcd a b := Int.gcd_comm b a
  constructor
  · rw [Rat.num_divInt]
    refine Nat.lt_of_le_of_lt ?_ h1
    refine Nat.le_trans (Int.natAbs_ediv_le_natAbs _ _) ?_
    rw [Int.natAbs_mul]
    have : b.sign.natAbs ≤ 1 := by
      rcases Int.lt_trichotomy b 0 with z | z | z
      · rw [Int.sign_eq_neg_one_of_neg z]; decide
      · rw [z]; decide
      · rw [Int.sign_eq_one_of_pos z]; decide
    calc b.sign.natAbs * a.natAbs ≤ 1 * a.natAbs := Nat.mul_le_mul_right _ this
      _ = a.natAbs := Nat.one_mul _
  · rw [Rat.den_divInt, if_neg hb]
    exact Nat.lt_of_le_of_lt (Nat.div_le_self _ _) h2
theorem pow2_pos (n : Nat) : 0 < 2 ^ n := Nat.pow_pos (by decide)
theorem nb_mul {r s : Rat} {m n : Nat} (h : NB m r) (h2 : NB n s) : NB (m + n) (r * s) := by
  rw [← mul_eq]
  refine nb_divInt (dd_ne r s) ?_ ?_
  · rw [Int.natAbs_mul, Nat.pow_add]; exact Nat.mul_lt_mul'' h.num h2.num
  · rw [Int.natAbs_mul, Nat.pow_add, Int.natAbs_natCast, Int.natAbs_natCast]; exact Nat.mul_lt_mul'' h.den h2.den
theorem add_abs {r s : Rat} {m n : Nat} (h : NB m r) (h2 : NB n s) : (r.num * (s.den : Int) + s.num * (r.den : Int)).natAbs < 2 ^ (m + n + 1) := by
  have a : (r.num * (s.den : Int)).natAbs < 2 ^ (m + n) := by
    rw [Int.natAbs_mul, Nat.pow_add, Int.natAbs_natCast]; exact Nat.mul_lt_mul'' h.num h2.den
  have b : (s.num * (r.den : Int)).natAbs < 2 ^ (m + n) := by
    rw [Int.natAbs_mul, Nat.add_comm, Nat.pow_add, Int.natAbs_natCast]; exact Nat.mul_lt_mul'' h2.num h.den
  have c := Int.natAbs_add_le (r.num * (s.den : Int)) (s.num * (r.den : Int))
  rw [Nat.pow_succ]
  omega
theorem nb_add {r s : Rat} {m n : Nat} (h : NB m r) (h2 : NB n s) : NB (m + n + 1) (r + s) := by
  rw [← add_eq]
  refine nb_divInt (dd_ne r s) (add_abs h h2) ?_
  rw [Int.natAbs_mul, Int.natAbs_natCast, Int.natAbs_natCast]
  have a : r.den * s.den < 2 ^ (m + n) := by rw [Nat.pow_add]; exact Nat.mul_lt_mul'' h.den h2.den
  rw [Nat.pow_succ]
  omega
theorem nb_neg {r : Rat} {n : Nat} (h : NB n r) : NB n (-r) := ⟨by rw [Rat.neg_num, Int.natAbs_neg]; exact h.num, by rw [Rat.neg_den]; exact h.den⟩
/-! ### the greatest integer that divides two -/
theorem gcd_turn {a b : Int} (ha : 0 ≤ a) (hb : 0 < b) : Int.gcd b (a.fmod b) = Int.gcd a b := by
  have e : a.fmod b = a % b := Int.fmod_eq_emod_of_nonneg a (by omega)
  rw [e, Int.gcd_comm a b]
  have q : (a % b).natAbs = a.natAbs % b.natAbs := by
    obtain ⟨n, rfl⟩ := Int.eq_ofNat_of_zero_le ha
    obtain ⟨m, rfl⟩ := Int.eq_ofNat_of_zero_le (show 0 ≤ b by omega)
    rw [← Int.natCast_emod]
    rfl
  show Nat.gcd b.natAbs (a % b).natAbs = Nat.gcd b.natAbs a.natAbs
  rw [q, Nat.gcd_comm b.natAbs (a.natAbs % b.natAbs), ← Nat.gcd_rec, Nat.gcd_comm]
theorem gcd_end {a : Int} (ha : 0 ≤ a) : ((Int.gcd a 0 : Nat) : Int) = a := by
  rw [Int.gcd_zero_right]; omega
theorem fmod_lt {a b : Int} (hb : 0 < b) : 0 ≤ a.fmod b ∧ a.fmod b < b := ⟨Int.fmod_nonneg_of_pos a hb, Int.fmod_lt_of_pos a hb⟩
end Pk

namespace Pk
/-! ### lists in order -/
theorem strict_ext {α : Type} (c : α → Nat) : ∀ {l m : List α}, l.Pairwise (fun a b => c a < c b) → m.Pairwise (fun a b => c a < c b) → (∀ x, x ∈ l ↔ x ∈ m) → l = m
  | [], [], _, _, _ => rfl
  | [], b :: m, _, _, h => absurd ((h b).mpr List.mem_cons_self) (by simp)
  | a :: l, [], _, _, h => absurd ((h a).mp List.mem_cons_self) (by simp)
  | a :: l, b :: m, p, q, h => by
    have p1 : ∀ {x}, x ∈ l → c a < c x := fun {x} hx => List.rel_of_pairwise_cons p hx
    have q1 : ∀ {x}, x ∈ m → c b < c x := fun {x} hx => List.rel_of_pairwise_cons q hx
    have e : a = b := by
      rcases List.mem_cons.mp ((h a).mp List.mem_cons_self) with e | e
      · exact e
      · rcases List.mem_cons.mp ((h b).mpr List.mem_cons_self) with e' | e'
        · exact e'.symm
        · have := p1 e'
          have := q1 e
          omega
    subst e
    have t : l = m := strict_ext c (List.Pairwise.of_cons p) (List.Pairwise.of_cons q) fun x => by
      constructor
      · intro hx
        rcases List.mem_cons.mp ((h x).mp (List.mem_cons_of_mem _ hx)) with e | e
        · subst e
          exact absurd (p1 hx) (Nat.lt_irrefl _)
        · exact e
      · intro hx
        rcases List.mem_cons.mp ((h x).mpr (List.mem_cons_of_mem _ hx)) with e | e
        · subst e
          exact absurd (q1 hx) (Nat.lt_irrefl _)
        · exact e
    rw [t]
def cd (p : Nat × Nat) : Nat := p.1 * 7 + p.2
theorem tri_strict : tri.Pairwise (fun a b => cd a < cd b) := by decide
theorem cd_inj {a b : Nat × Nat} (ha : a.1 + a.2 ≤ 6) (hb : b.1 + b.2 ≤ 6) (h : cd a = cd b) : a = b := by
  unfold cd at h
  obtain ⟨i, j⟩ := a
  obtain ⟨k, l⟩ := b
  dsimp only at *
  have : i = k := by omega
  subst this
  have : j = l := by omega
  subst this
  rfl
theorem sorted_tri {zs : List (Nat × Nat)} (nd : zs.Nodup) (lo : ∀ z ∈ zs, z.1 + z.2 ≤ 6) (st : zs.Pairwise (fun a b => cd a ≤ cd b)) : zs = tri.filter (fun p => decide (p ∈ zs)) := by
  refine strict_ext cd ?_ (List.Pairwise.filter _ tri_strict) fun x => ?_
  · refine List.Pairwise.imp_of_mem (fun {a b} ha hb h => ?_) (List.Pairwise.and st nd)
    obtain ⟨h1, h2⟩ := h
    have : cd a ≠ cd b := fun e => h2 (cd_inj (lo a ha) (lo b hb) e)
    omega
  · rw [List.mem_filter, decide_eq_true_iff]
    exact ⟨fun h => ⟨tri_mem (lo x h), h⟩, fun h => h.2⟩
/-! ### terms by places -/
def nzs (f : Co) : List (Nat × Nat) := tri.filter fun p => decide (f p.1 p.2 ≠ 0)
def tm (f : Co) (p : Nat × Nat) : Tm := (p.1, p.2, f p.1 p.2)
theorem terms_nzs (f : Co) : terms f = (nzs f).map (tm f) := by
  unfold terms nzs tm
  generalize tri = l
  induction l with
  | nil => rfl
  | cons a l ih =>
    rw [List.filterMap_cons, List.filter_cons]
    by_cases h : f a.1 a.2 = 0
    · rw [if_pos h, decide_eq_false (by simp [h]), ih]
      rfl
    · rw [if_neg h, decide_eq_true h, ih]
      rfl
theorem mem_nzs {f : Co} (lw : Lw f) {p : Nat × Nat} : p ∈ nzs f ↔ f p.1 p.2 ≠ 0 := by
  unfold nzs
  rw [List.mem_filter, decide_eq_true_iff]
  refine ⟨fun h => h.2, fun h => ⟨?_, h⟩⟩
  exact tri_mem (Nat.le_of_not_lt fun z => h (lw _ _ z))
/-- the places, sorted, those of 0 left out -/
theorem nzs_of {f : Co} (lw : Lw f) {zs : List (Nat × Nat)} (nd : zs.Nodup) (lo : ∀ z ∈ zs, z.1 + z.2 ≤ 6) (st : zs.Pairwise (fun a b => cd a ≤ cd b)) (h : ∀ i j, f i j ≠ 0 → (i, j) ∈ zs) : zs.filter (fun p => decide (f p.1 p.2 ≠ 0)) = nzs f := by
  refine strict_ext cd ?_ (List.Pairwise.filter _ tri_strict) fun x => ?_
  · refine List.Pairwise.filter _ (List.Pairwise.imp_of_mem (fun {a b} ha hb h => ?_) (List.Pairwise.and st nd))
    obtain ⟨h1, h2⟩ := h
    have : cd a ≠ cd b := fun e => h2 (cd_inj (lo a ha) (lo b hb) e)
    omega
  · rw [mem_nzs lw, List.mem_filter, decide_eq_true_iff]
    exact ⟨fun h => h.2, fun hx => ⟨h _ _ hx, hx⟩⟩
theorem nzs_len (f : Co) : (nzs f).length ≤ 28 := Nat.le_trans (List.length_filter_le _ _) (by decide)
theorem terms_len (f : Co) : (terms f).length ≤ 28 := by rw [terms_nzs, List.length_map]; exact nzs_len f
theorem low_len {zs : List (Nat × Nat)} (nd : zs.Nodup) (lo : ∀ z ∈ zs, z.1 + z.2 ≤ 6) : zs.length ≤ 28 := by
  have : zs ⊆ tri := fun z hz => tri_mem (lo z hz)
  exact (List.Nodup.subperm_length nd this)
where
  List.Nodup.subperm_length {l : List (Nat × Nat)} (nd : l.Nodup) (h : l ⊆ tri) : l.length ≤ 28 := by
    have key : ∀ (m l : List (Nat × Nat)), l.Nodup → l ⊆ m → l.length ≤ m.length := by
      intro m
      induction m with
      | nil =>
        intro l _ h
        have := List.eq_nil_iff_forall_not_mem.mpr (fun a ha => by simpa using h ha)
        rw [this]
        exact Nat.le_refl _
      | cons a m ih =>
        intro l nd h
        by_cases ha : a ∈ l
        · have h1 := ih (l.erase a) (nd.erase a) (fun x hx => by
            have hx' := (List.Nodup.mem_erase_iff nd).mp hx
            rcases List.mem_cons.mp (h hx'.2) with e | e
            · exact absurd e hx'.1
            · exact e)
          rw [List.length_erase_of_mem ha] at h1
          rw [List.length_cons]
          omega
        · have h1 := ih l nd fun x hx => by
            rcases List.mem_cons.mp (h hx) with e | e
            · subst e
              exact absurd hx ha
            · exact e
          rw [List.length_cons]
          omega
    exact key tri l nd h
/-! ### the degree -/
def mx (l : List Nat) : Nat := l.foldr max 0
theorem mx_le {l : List Nat} {d : Nat} : mx l ≤ d ↔ ∀ x ∈ l, x ≤ d := by
  induction l with
  | nil => simp [mx]
  | cons a l ih =>
    have e : mx (a :: l) = max a (mx l) := rfl
    rw [e, Nat.max_le, ih]
    simp
theorem mx_congr {l m : List Nat} (h : ∀ x, x ∈ l ↔ x ∈ m) : mx l = mx m :=
  Nat.le_antisymm (mx_le.mpr fun x hx => mx_le.mp (Nat.le_refl _) x ((h x).mp hx)) (mx_le.mpr fun x hx => mx_le.mp (Nat.le_refl _) x ((h x).mpr hx))
def dgn (f : Co) : Nat := mx ((terms f).map fun t => t.1 + t.2.1)
theorem dgn_le {d : Nat} {f : Co} (h : Dg d f) : dgn f ≤ d := mx_le.mpr fun x hx => by
  obtain ⟨t, ht, rfl⟩ := List.mem_map.mp hx
  exact h.term ht
theorem dg_dgn {f : Co} (h : Lw f) : Dg (dgn f) f := fun i j hz => by
  have lo : i + j ≤ 6 := Nat.le_of_not_lt fun z => hz (h _ _ z)
  exact mx_le.mp (Nat.le_refl _) _ (List.mem_map.mpr ⟨_, mem_terms lo hz, rfl⟩)
/-- the largest of a list, as it is found from the left -/
theorem top_mx : ∀ (l : List Nat) (a : Nat), (l.map fun n : Nat => (n : Int)).foldl max (a : Int) = ((max a (mx l) : Nat) : Int)
  | [], a => by simp [mx]
  | b :: l, a => by
    rw [List.map_cons, List.foldl_cons]
    have e : max (a : Int) (b : Int) = ((max a b : Nat) : Int) := by omega
    rw [e, top_mx l (max a b)]
    have e2 : mx (b :: l) = max b (mx l) := rfl
    rw [e2]
    omega
/-! ### a list of terms, each place once -/
def pr (t : Tm) : Nat × Nat := (t.1, t.2.1)
theorem co_one_place {ts : List Tm} (nd : (ts.map pr).Nodup) {t : Tm} (h : t ∈ ts) : co ts t.1 t.2.1 = t.2.2 := by
  induction ts with
  | nil => simp at h
  | cons a ts ih =>
    rw [List.map_cons, List.nodup_cons] at nd
    rw [co_cons]
    have zero : ∀ (l : List Tm) (i j : Nat), (i, j) ∉ l.map pr → co l i j = 0 := by
      intro l i j
      induction l with
      | nil => intro _; exact co_nil i j
      | cons b l ih =>
        intro hn
        rw [co_cons, ih (fun z => hn (List.mem_cons_of_mem _ z)), if_neg]
        · grind
        · rintro ⟨rfl, rfl⟩
          exact hn List.mem_cons_self
    rcases List.mem_cons.mp h with e | e
    · subst e
      rw [if_pos ⟨rfl, rfl⟩, zero ts t.1 t.2.1 nd.1]
      grind
    · have hne : ¬ (a.1 = t.1 ∧ a.2.1 = t.2.1) := by
        rintro ⟨e1, e2⟩
        refine nd.1 (List.mem_map.mpr ⟨t, e, ?_⟩)
        unfold pr
        rw [e1, e2]
      rw [if_neg hne, ih nd.2 e]
      grind
theorem co_no_place : ∀ (l : List Tm) (i j : Nat), (i, j) ∉ l.map pr → co l i j = 0 := by
  intro l i j
  induction l with
  | nil => intro _; exact co_nil i j
  | cons b l ih =>
    intro hn
    rw [co_cons, ih (fun z => hn (List.mem_cons_of_mem _ z)), if_neg]
    · grind
    · rintro ⟨rfl, rfl⟩
      exact hn List.mem_cons_self
theorem terms_nd (f : Co) : ((terms f).map pr).Nodup := by
  have e : (terms f).map pr = nzs f := by
    rw [terms_nzs, List.map_map]
    conv => rhs; rw [← List.map_id (nzs f)]
    exact List.map_congr_left fun p _ => rfl
  rw [e]
  exact List.Pairwise.filter _ tri_nd
theorem terms_pr (f : Co) : (terms f).map pr = nzs f := by
  rw [terms_nzs, List.map_map]
  conv => rhs; rw [← List.map_id (nzs f)]
  exact List.map_congr_left fun p _ => rfl
/-- a coefficient set -/
def setC (f : Co) (i j : Nat) (r : Rat) : Co := fun a b => if a = i ∧ b = j then r else f a b
theorem setC_add (l : List Tm) (t : Tm) : setC (co l) t.1 t.2.1 (co l t.1 t.2.1 + t.2.2) = co (l ++ [t]) := by
  funext a b
  unfold setC
  rw [co_append, co_cons, co_nil]
  by_cases h : a = t.1 ∧ b = t.2.1
  · obtain ⟨rfl, rfl⟩ := h
    rw [if_pos ⟨rfl, rfl⟩, if_pos ⟨rfl, rfl⟩]
    grind
  · rw [if_neg h, if_neg (fun z => h ⟨z.1.symm, z.2.symm⟩)]
    grind
theorem setC_new {l : List Tm} {t : Tm} (h : pr t ∉ l.map pr) : setC (co l) t.1 t.2.1 t.2.2 = co (l ++ [t]) := by
  rw [← setC_add, co_no_place l t.1 t.2.1 h]
  congr 1
  grind
end Pk

namespace Pk
theorem L1_set (f : Co) {i j : Nat} (h : i + j ≤ 6) (r : Rat) : L1 (setC f i j r) ≤ L1 f + ra r := by
  have e : sm tri (fun k => (if k = (i, j) then (1 : Rat) else 0) * ra r) = 1 * ra r := sm_one tri_nd (tri_mem h) 1 fun _ => ra r
  have h1 : L1 (setC f i j r) ≤ sm tri (fun k => ra (f k.1 k.2) + (if k = (i, j) then (1 : Rat) else 0) * ra r) := by
    unfold L1
    refine sm_le fun k _ => ?_
    obtain ⟨a, b⟩ := k
    unfold setC
    by_cases c : a = i ∧ b = j
    · obtain ⟨rfl, rfl⟩ := c
      rw [if_pos ⟨rfl, rfl⟩, if_pos rfl]
      have := ra_nn (f a b)
      grind
    · have n : ¬ ((a, b) = (i, j)) := fun z => c (by injection z with z1 z2; exact ⟨z1, z2⟩)
      rw [if_neg c, if_neg n]
      grind
  rw [sm_add, e] at h1
  unfold L1 at *
  grind
theorem SC.set {D M N : Nat} {f : Co} (h : SC D M f) {i j : Nat} (le : i + j ≤ 6) {r : Rat} (hr : IB D N r) : SC D (M + N) (setC f i j r) := by
  refine ⟨h.pos, fun a b => ?_, ?_⟩
  · unfold setC
    split
    · exact hr.it
    · exact h.it a b
  · have h1 := Rat.mul_le_mul_of_nonneg_right (L1_set f le r) (cast_nn D)
    have h2 := h.le
    have h3 := hr.le
    rw [Rat.natCast_add]
    grind
theorem set_dg {d : Nat} {f : Co} (h : Dg d f) {i j : Nat} (le : i + j ≤ d) (r : Rat) : Dg d (setC f i j r) := fun a b z => by
  unfold setC at z
  split at z
  · rename_i c
    obtain ⟨rfl, rfl⟩ := c
    exact le
  · exact h a b z
/-! ### the drawn coefficients -/
def menu : List Rat := [1, -1, 2, mkRat 1 2, mkRat (-3) 2, 5, mkRat 2 3, -4, mkRat (10 ^ 30) 7, 1 - 10 ^ 29]
theorem menu_ib : ∀ r ∈ menu, IB 42 (6 * 10 ^ 30) r := by
  intro r hr
  unfold menu at hr
  simp only [List.mem_cons, List.mem_nil_iff, or_false] at hr
  rcases hr with rfl | rfl | rfl | rfl | rfl | rfl | rfl | rfl | rfl | rfl
  · exact ⟨by decide, ⟨42, by decide +kernel⟩, by decide +kernel⟩
  · exact ⟨by decide, ⟨-42, by decide +kernel⟩, by decide +kernel⟩
  · exact ⟨by decide, ⟨84, by decide +kernel⟩, by decide +kernel⟩
  · exact ⟨by decide, ⟨21, by decide +kernel⟩, by decide +kernel⟩
  · exact ⟨by decide, ⟨-63, by decide +kernel⟩, by decide +kernel⟩
  · exact ⟨by decide, ⟨210, by decide +kernel⟩, by decide +kernel⟩
  · exact ⟨by decide, ⟨28, by decide +kernel⟩, by decide +kernel⟩
  · exact ⟨by decide, ⟨-168, by decide +kernel⟩, by decide +kernel⟩
  · exact ⟨by decide, ⟨6 * 10 ^ 30, by decide +kernel⟩, by decide +kernel⟩
  · exact ⟨by decide, ⟨42 * (1 - 10 ^ 29), by decide +kernel⟩, by decide +kernel⟩
end Pk

namespace Kd
open PySem PySem.Spec PyProof.Rows L2 Pk
/-! ### the text by places -/
theorem sc_is_integer : FnScope ["value"] ["value"] (defScope (top 8)) := ⟨rfl, rfl, rfl, by decide +kernel, rfl, by decide +kernel, by decide +kernel⟩
theorem sc_is_within : FnScope ["value", "least", "most"] ["value", "least", "most"] (defScope (top 9)) := ⟨rfl, rfl, rfl, by decide +kernel, rfl, by decide +kernel, by decide +kernel⟩
theorem sc_is_list : FnScope ["value"] ["value"] (defScope (top 10)) := ⟨rfl, rfl, rfl, by decide +kernel, rfl, by decide +kernel, by decide +kernel⟩
theorem sc_common : FnScope ["one", "other"] ["one", "other"] (defScope (top 11)) := ⟨rfl, rfl, rfl, by decide +kernel, rfl, by decide +kernel, by decide +kernel⟩
theorem sc_is_number : FnScope ["value"] ["value"] (defScope (top 12)) := ⟨rfl, rfl, rfl, by decide +kernel, rfl, by decide +kernel, by decide +kernel⟩
theorem sc_is_point : FnScope ["value", "each"] ["value"] (defScope (top 13)) := ⟨rfl, rfl, rfl, by decide +kernel, rfl, by decide +kernel, by decide +kernel⟩
theorem sc_is_turn : FnScope ["value", "a", "b", "c", "d", "each"] ["value"] (defScope (top 14)) := ⟨rfl, rfl, rfl, by decide +kernel, rfl, by decide +kernel, by decide +kernel⟩
theorem sc_kept : FnScope ["number"] ["number"] (defScope (top 15)) := ⟨rfl, rfl, rfl, by decide +kernel, rfl, by decide +kernel, by decide +kernel⟩
theorem sc_kept_row : FnScope ["row", "each"] ["row"] (defScope (top 16)) := ⟨rfl, rfl, rfl, by decide +kernel, rfl, by decide +kernel, by decide +kernel⟩
theorem sc_need_number : FnScope ["value", "part"] ["value", "part"] (defScope (top 17)) := ⟨rfl, rfl, rfl, by decide +kernel, rfl, by decide +kernel, by decide +kernel⟩
theorem sc_need_point : FnScope ["value", "part"] ["value", "part"] (defScope (top 18)) := ⟨rfl, rfl, rfl, by decide +kernel, rfl, by decide +kernel, by decide +kernel⟩
theorem sc_need_turn : FnScope ["value", "part"] ["value", "part"] (defScope (top 19)) := ⟨rfl, rfl, rfl, by decide +kernel, rfl, by decide +kernel, by decide +kernel⟩
theorem sc_halves : FnScope ["number"] ["number"] (defScope (top 21)) := ⟨rfl, rfl, rfl, by decide +kernel, rfl, by decide +kernel, by decide +kernel⟩
theorem sc_lowest : FnScope ["above", "under", "part"] ["above", "under"] (defScope (top 22)) := ⟨rfl, rfl, rfl, by decide +kernel, rfl, by decide +kernel, by decide +kernel⟩
theorem sc_added : FnScope ["one", "other", "above", "under", "its", "below_it"] ["one", "other"] (defScope (top 23)) := ⟨rfl, rfl, rfl, by decide +kernel, rfl, by decide +kernel, by decide +kernel⟩
theorem sc_turned : FnScope ["number", "above", "under"] ["number"] (defScope (top 24)) := ⟨rfl, rfl, rfl, by decide +kernel, rfl, by decide +kernel, by decide +kernel⟩
theorem sc_product : FnScope ["one", "other", "above", "under", "its", "below_it"] ["one", "other"] (defScope (top 25)) := ⟨rfl, rfl, rfl, by decide +kernel, rfl, by decide +kernel, by decide +kernel⟩
theorem sc_part_by : FnScope ["one", "other", "above", "under", "its", "below_it"] ["one", "other"] (defScope (top 26)) := ⟨rfl, rfl, rfl, by decide +kernel, rfl, by decide +kernel, by decide +kernel⟩
theorem sc_is_term : FnScope ["value", "power"] ["value"] (defScope (top 30)) := ⟨rfl, rfl, rfl, by decide +kernel, rfl, by decide +kernel, by decide +kernel⟩
theorem sc_Poly_init : FnScope ["self", "terms", "found", "i", "j", "number", "term"] ["self", "terms"] (defScope (inClass (top 31) 0)) := ⟨rfl, rfl, rfl, by decide +kernel, rfl, by decide +kernel, by decide +kernel⟩
theorem sc_Poly_eq : FnScope ["self", "other"] ["self", "other"] (defScope (inClass (top 31) 1)) := ⟨rfl, rfl, rfl, by decide +kernel, rfl, by decide +kernel, by decide +kernel⟩
theorem sc_need_poly : FnScope ["value", "part"] ["value", "part"] (defScope (top 32)) := ⟨rfl, rfl, rfl, by decide +kernel, rfl, by decide +kernel, by decide +kernel⟩
theorem sc_need_low : FnScope ["degree"] ["degree"] (defScope (top 33)) := ⟨rfl, rfl, rfl, by decide +kernel, rfl, by decide +kernel, by decide +kernel⟩
theorem sc_of_powers : FnScope ["found", "number", "i", "j"] ["found"] (defScope (top 34)) := ⟨rfl, rfl, rfl, by decide +kernel, rfl, by decide +kernel, by decide +kernel⟩
theorem sc_lone : FnScope ["number"] ["number"] (defScope (top 35)) := ⟨rfl, rfl, rfl, by decide +kernel, rfl, by decide +kernel, by decide +kernel⟩
theorem sc_line : FnScope ["across", "up", "number"] ["across", "up", "number"] (defScope (top 36)) := ⟨rfl, rfl, rfl, by decide +kernel, rfl, by decide +kernel, by decide +kernel⟩
theorem sc_sum_of : FnScope ["one", "other", "i", "j", "number", "found"] ["one", "other"] (defScope (top 37)) := ⟨rfl, rfl, rfl, by decide +kernel, rfl, by decide +kernel, by decide +kernel⟩
theorem sc_times_of : FnScope ["poly", "number", "i", "j", "its"] ["poly", "number"] (defScope (top 38)) := ⟨rfl, rfl, rfl, by decide +kernel, rfl, by decide +kernel, by decide +kernel⟩
theorem sc_product_of : FnScope ["one", "other", "found", "i", "j", "number", "across", "up", "its", "both"] ["one", "other"] (defScope (top 39)) := ⟨rfl, rfl, rfl, by decide +kernel, rfl, by decide +kernel, by decide +kernel⟩
theorem sc_power_of : FnScope ["poly", "many", "found", "_"] ["poly", "many"] (defScope (top 40)) := ⟨rfl, rfl, rfl, by decide +kernel, rfl, by decide +kernel, by decide +kernel⟩
theorem sc_put_in_of : FnScope ["poly", "one", "other", "found", "i", "j", "number", "both"] ["poly", "one", "other"] (defScope (top 41)) := ⟨rfl, rfl, rfl, by decide +kernel, rfl, by decide +kernel, by decide +kernel⟩
theorem sc_number_power : FnScope ["number", "many", "found", "_"] ["number", "many"] (defScope (top 42)) := ⟨rfl, rfl, rfl, by decide +kernel, rfl, by decide +kernel, by decide +kernel⟩
theorem sc_value_of : FnScope ["poly", "point", "found", "i", "j", "number", "both"] ["poly", "point"] (defScope (top 43)) := ⟨rfl, rfl, rfl, by decide +kernel, rfl, by decide +kernel, by decide +kernel⟩
theorem sc_poly_sum : FnScope ["one", "other"] ["one", "other"] (defScope (top 44)) := ⟨rfl, rfl, rfl, by decide +kernel, rfl, by decide +kernel, by decide +kernel⟩
theorem sc_poly_product : FnScope ["one", "other"] ["one", "other"] (defScope (top 45)) := ⟨rfl, rfl, rfl, by decide +kernel, rfl, by decide +kernel, by decide +kernel⟩
theorem sc_value : FnScope ["poly", "point"] ["poly", "point"] (defScope (top 46)) := ⟨rfl, rfl, rfl, by decide +kernel, rfl, by decide +kernel, by decide +kernel⟩
theorem sc_slope : FnScope ["poly", "unknown", "i", "j", "number"] ["poly", "unknown"] (defScope (top 47)) := ⟨rfl, rfl, rfl, by decide +kernel, rfl, by decide +kernel, by decide +kernel⟩
theorem sc_put_in : FnScope ["poly", "one", "other"] ["poly", "one", "other"] (defScope (top 48)) := ⟨rfl, rfl, rfl, by decide +kernel, rfl, by decide +kernel, by decide +kernel⟩
theorem sc_moved : FnScope ["poly", "point", "across", "up"] ["poly", "point"] (defScope (top 49)) := ⟨rfl, rfl, rfl, by decide +kernel, rfl, by decide +kernel, by decide +kernel⟩
theorem sc_turned_poly : FnScope ["poly", "turn", "c", "s"] ["poly", "turn"] (defScope (top 50)) := ⟨rfl, rfl, rfl, by decide +kernel, rfl, by decide +kernel, by decide +kernel⟩
theorem sc_stretched : FnScope ["poly", "number", "times", "part"] ["poly", "number"] (defScope (top 51)) := ⟨rfl, rfl, rfl, by decide +kernel, rfl, by decide +kernel, by decide +kernel⟩
theorem sc_law_lathe : FnScope ["_law_script", "_law_cell"] ["_law_script"] (defScope (top 53)) := ⟨rfl, rfl, rfl, by decide +kernel, rfl, by decide +kernel, by decide +kernel⟩
theorem sc_law_spin : FnScope ["_law_lathe_here", "_law_many", "_law_rest", "_law_at", "_law_cell", "_law_mixed"] ["_law_lathe_here", "_law_many"] (defScope (top 54)) := ⟨rfl, rfl, rfl, by decide +kernel, rfl, by decide +kernel, by decide +kernel⟩
theorem sc_law_one_of : FnScope ["_law_lathe_here", "_law_some_here"] ["_law_lathe_here", "_law_some_here"] (defScope (top 55)) := ⟨rfl, rfl, rfl, by decide +kernel, rfl, by decide +kernel, by decide +kernel⟩
theorem sc_law_both : FnScope ["_law_number"] ["_law_number"] (defScope (top 56)) := ⟨rfl, rfl, rfl, by decide +kernel, rfl, by decide +kernel, by decide +kernel⟩
theorem sc_law_low : FnScope ["_law_above", "_law_under", "_law_part", "_law_other"] ["_law_above", "_law_under"] (defScope (top 57)) := ⟨rfl, rfl, rfl, by decide +kernel, rfl, by decide +kernel, by decide +kernel⟩
theorem sc_law_plus : FnScope ["_law_one", "_law_other", "_law_above", "_law_under", "_law_its", "_law_low_here"] ["_law_one", "_law_other"] (defScope (top 58)) := ⟨rfl, rfl, rfl, by decide +kernel, rfl, by decide +kernel, by decide +kernel⟩
theorem sc_law_times : FnScope ["_law_one", "_law_other", "_law_above", "_law_under", "_law_its", "_law_low_here"] ["_law_one", "_law_other"] (defScope (top 59)) := ⟨rfl, rfl, rfl, by decide +kernel, rfl, by decide +kernel, by decide +kernel⟩
theorem sc_law_powers : FnScope ["_law_lathe_here", "_law_degree", "_law_many", "_law_found", "_law_turn_here", "_law_i"] ["_law_lathe_here", "_law_degree", "_law_many"] (defScope (top 60)) := ⟨rfl, rfl, rfl, by decide +kernel, rfl, by decide +kernel, by decide +kernel⟩
theorem sc_law_terms : FnScope ["_law_found", "_law_i", "_law_j"] ["_law_found"] (defScope (top 61)) := ⟨rfl, rfl, rfl, by decide +kernel, rfl, by decide +kernel, by decide +kernel⟩
theorem sc_law_worth : FnScope ["_law_found", "_law_point_here", "_law_total", "_law_i", "_law_j", "_law_number", "_law_lap"] ["_law_found", "_law_point_here"] (defScope (top 62)) := ⟨rfl, rfl, rfl, by decide +kernel, rfl, by decide +kernel, by decide +kernel⟩
theorem sc_law_some : FnScope ["_law_lathe_here"] ["_law_lathe_here"] (defScope (top 63)) := ⟨rfl, rfl, rfl, by decide +kernel, rfl, by decide +kernel, by decide +kernel⟩
theorem sc_law_point : FnScope ["_law_lathe_here"] ["_law_lathe_here"] (defScope (top 64)) := ⟨rfl, rfl, rfl, by decide +kernel, rfl, by decide +kernel, by decide +kernel⟩
theorem sc_law_turn : FnScope ["_law_lathe_here", "_law_p", "_law_q"] ["_law_lathe_here"] (defScope (top 65)) := ⟨rfl, rfl, rfl, by decide +kernel, rfl, by decide +kernel, by decide +kernel⟩
theorem sc_law_poly : FnScope ["_law_lathe_here", "_law_degree", "_law_many"] ["_law_lathe_here", "_law_degree", "_law_many"] (defScope (top 66)) := ⟨rfl, rfl, rfl, by decide +kernel, rfl, by decide +kernel, by decide +kernel⟩
theorem sc_law_dict : FnScope ["_law_poly_here", "_law_i", "_law_j", "_law_number"] ["_law_poly_here"] (defScope (top 67)) := ⟨rfl, rfl, rfl, by decide +kernel, rfl, by decide +kernel, by decide +kernel⟩
theorem sc_law_slope_right : FnScope ["_law_lathe_here", "_law_poly_here", "_law_by_x", "_law_by_y", "_law_i", "_law_j", "_law_number", "_law_other", "_law_unknown", "_law_due"] ["_law_lathe_here", "_law_poly_here"] (defScope (top 68)) := ⟨rfl, rfl, rfl, by decide +kernel, rfl, by decide +kernel, by decide +kernel⟩
theorem sc_law_put_right : FnScope ["_law_lathe_here", "_law_degree", "_law_poly_here", "_law_most", "_law_one", "_law_other", "_law_made", "_law_turn_here", "_law_point_here", "_law_here", "_law_first", "_law_second", "_law_unknown", "_law_grown"] ["_law_lathe_here"] (defScope (top 69)) := ⟨rfl, rfl, rfl, by decide +kernel, rfl, by decide +kernel, by decide +kernel⟩
theorem sc_law_led_right : FnScope ["_law_lathe_here", "_law_poly_here", "_law_across", "_law_up", "_law_c", "_law_s", "_law_number", "_law_gone", "_law_bent", "_law_wide", "_law_turn_here", "_law_x", "_law_y", "_law_due", "_law_told", "_law_above", "_law_under", "_law_back", "_law_made", "_law_point_here"] ["_law_lathe_here", "_law_poly_here"] (defScope (top 70)) := ⟨rfl, rfl, rfl, by decide +kernel, rfl, by decide +kernel, by decide +kernel⟩
theorem sc_law : FnScope ["_law_script", "_law_lathe_here", "_law_turn_here", "_law_poly_here"] ["_law_script"] (defScope (top 71)) := ⟨rfl, rfl, rfl, by decide +kernel, rfl, by decide +kernel, by decide +kernel⟩
/-! ### defs and what they promise -/
section
variable (P : Program) (w : World) (K : PySem.W.Frag) (mg : Str → Option Value) (base : Heap)
/-- a def as the top has left it -/
def Row (x : Str) (st : Stmt) (ps : List Str) : Prop := ∃ f fd, FunD K x x (defArgs st) (defBody st) (defScope st) [] [] f fd ∧ mg x = some (.ref f) ∧ Binds K fd ps []
/-- a def that keeps its promise -/
def Okk (x : Str) (k : Nat) (ps : List Str) (sp : Sp) : Prop := ∃ f fd, FnOk P w K mg base CX0 k f fd ps sp ∧ mg x = some (.ref f) ∧ PySem.W.keepIn K (.ref f) = true ∧ Binds K fd ps []
end
section
variable {P : Program} {w : World} {K : PySem.W.Frag} {mg : Str → Option Value} {base : Heap}
theorem okk {x : Str} {st : Stmt} {N ps : List Str} {k : Nat} {sp : Sp} (R : Row K mg x st ps) (S : FnScope N ps (defScope st)) (len : ∀ vs H Q E, sp vs H Q E → vs.length = ps.length)
    (hbody : ∀ (f : Addr) (cdv : Value) (A : Around) (outer : List Env) (s : Shared) (H : Hp) (vs : List V) (Q : VK) (E : XK), Room k (A.deeper (envOfC x (defScope st) s.heap.objs.size f cdv)) → sp vs H Q E →
      ∃ t, PSs (cxOf CX0 P w K mg base N x (defScope st) f cdv A outer s H E).nox (defBody st) t ∧ t { nx := fun _ H' => Q .non H', rt := Q } (start N vs) H) : Okk P w K mg base x (k + 1) ps sp := by
  obtain ⟨f, fd, F, g, b⟩ := R
  refine ⟨f, fd, F.ok S len fun cdv A outer s H vs Q E hr h => ?_, g, F.kp, b⟩
  obtain ⟨t, h1, h2⟩ := hbody f cdv A outer s H vs Q E hr h
  exact ⟨t, h1.nox, h2⟩
end
section
variable {X : Cx}
/-- a call of such a def -/
theorem pe_cl {x : Str} {k j : Nat} {ps : List Str} {sp : Sp} {e : Expr} {es : List Expr} {t : TA} {p pos : Pos} (O : Okk X.prog X.w X.K X.mg X.base x k ps sp) (hr : Room j X.A) (ha : PA X (e :: es) t) (le : k ≤ j := by decide) (hg : Gl X x := by rfl)
    (hdb : (x == ("__debug__" : Str)) = false := by decide) (he : starEach (e :: es) X.env = (false, eval e X.env) :: starEach es X.env := by rfl) (hpl : (backTo pos (starEach es X.env)).any (·.1) = false := by rfl) : PE X (.Call (.Name x p) (e :: es) [] pos) (tCall sp [] E0 t) := by
  obtain ⟨f, fd, F, g, kp, b⟩ := O
  exact pe_call F (hr.mono le) hg g kp b .nil pass0 ha hdb he hpl
theorem op_fdivZ : OpR X (binaryOp .FloorDiv) (rI (fun _ j => j ≠ 0 ∧ j.natAbs.log2 < 9000) fun i j => .int (i.fdiv j)) := opI fun _ _ _ _ _ _ _ hc q => floordiv_int hc.1 q (.inl (PyProof.noPylong_of_log2 hc.2))
end
/-! ### what values stand for -/
/-- the number r -/
def NumV (H : Hp) (v : V) (r : Rat) : Prop := (r.den = 1 ∧ v = .int r.num) ∨ (r.den ≠ 1 ∧ ∃ p, v = .ref p ∧ H p = some (.tup [.int r.num, .int (r.den : Int)]))
theorem NumV.same {H H' : Hp} {v : V} {r : Rat} (h : NumV H v r) (s : Same H H') : NumV H' v r := by
  rcases h with h | ⟨d, p, e, hp⟩
  · exact .inl h
  · exact .inr ⟨d, p, e, s p _ hp⟩
theorem same_upd {H : Hp} {p : Addr} {o : HO} (h : H p = none) : Same H (upd H p o) := fun b x e => by
  rw [upd_ne (ne_of_none e h)]
  exact e
theorem Same.upd {H H' : Hp} {p : Addr} {o : HO} (s : Same H H') (h : H' p = none) : Same H (L2.upd H' p o) := s.trans (same_upd h)
/-- what comes out, and what stood before stands -/
def Out (H : Hp) (Q : VK) (Φ : V → Hp → Prop) : Prop := ∀ v H', Same H H' → Φ v H' → Q v H'
theorem Out.go {H H1 : Hp} {Q : VK} {Φ : V → Hp → Prop} (o : Out H Q Φ) (s : Same H H1) : Out H1 Q Φ := fun v H' s2 h => o v H' (s.trans s2) h
theorem tupAt {K : PySem.W.Frag} {H : Hp} {p : Addr} {xs : List V} (h : H p = some (.tup xs)) : SqT K H p xs := .inl (.inl h)
theorem lstAt {K : PySem.W.Frag} {H : Hp} {p : Addr} {xs : List V} (h : H p = some (.lst xs)) : SqL K H p xs := .inl (.inl h)
theorem sz {n : Nat} (h : n ≤ 1000) : n ≤ sizeLine := Nat.le_of_lt (small1000 h)
theorem isi_int {K : PySem.W.Frag} {H : Hp} {i : Int} : TyX K H (.int i) (.type "int") := .base (.int i)
theorem isi_tup {K : PySem.W.Frag} {H : Hp} {p : Addr} {xs : List V} (h : H p = some (.tup xs)) : TyX K H (.ref p) (.type "tuple") := .base (.tup h)
theorem isi_lst {K : PySem.W.Frag} {H : Hp} {p : Addr} {xs : List V} (h : H p = some (.lst xs)) : TyX K H (.ref p) (.type "list") := .base (.lst h)
end Kd

namespace Kd
open PySem PySem.Spec PyProof.Rows L2 Pk
section
variable {P : Program} {w : World} {K : PySem.W.Frag} {mg : Str → Option Value} {base : Heap}
/-! ### is_integer, is_within, is_list -/
/-- an int, or what is a tuple or a list -/
def IntOr (H : Hp) (v : V) (b : Bool) : Prop := (∃ i, v = .int i ∧ b = true) ∨ ∃ p xs, v = .ref p ∧ (H p = some (.tup xs) ∨ H p = some (.lst xs)) ∧ b = false
theorem IntOr.same {H H' : Hp} {v : V} {b : Bool} (h : IntOr H v b) (s : Same H H') : IntOr H' v b := by
  rcases h with h | ⟨p, xs, e, hp, eb⟩
  · exact .inl h
  · exact .inr ⟨p, xs, e, hp.elim (fun z => .inl (s p _ z)) (fun z => .inr (s p _ z)), eb⟩
theorem NumV.intOr {H : Hp} {v : V} {r : Rat} (h : NumV H v r) : IntOr H v (decide (r.den = 1)) := by
  rcases h with ⟨d, e⟩ | ⟨d, p, e, hp⟩
  · exact .inl ⟨_, e, decide_eq_true d⟩
  · exact .inr ⟨p, _, e, .inl hp, decide_eq_false d⟩
def spIsInteger : Sp := fun vs H Q _ => ∃ v b, vs = [v] ∧ IntOr H v b ∧ Q (.bl b) H
theorem ok_is_integer (R : Row K mg "is_integer" (top 8) ["value"]) (gi : mg "isinstance" = none) (gn : mg "int" = none) (gb : mg "bool" = none) : Okk P w K mg base "is_integer" 1 ["value"] spIsInteger := by
  refine okk R sc_is_integer (fun vs H Q E h => ?_) (fun f cdv A outer s H vs Q E hr h => ?_)
  · obtain ⟨v, b, rfl, _⟩ := h
    rfl
  · obtain ⟨v, b, rfl, hv, q⟩ := h
    refine ⟨_, pss_one (ps_ret (pe_and (pe_callB call_isi (by rfl) gi (by decide +kernel) (pa_cons (pv 0) (pa_cons (pe_bltn (v := .ty "int") (by rfl) gn (by decide +kernel) rfl) pa_nil)))
      (pe_one (pe_not (pe_callB call_isi (by rfl) gi (by decide +kernel) (pa_cons (pv 0) (pa_cons (pe_bltn (v := .ty "bool") (by rfl) gb (by decide +kernel) rfl) pa_nil))))))), ?_⟩
    rcases hv with ⟨i, rfl, rfl⟩ | ⟨p, xs, rfl, hp, rfl⟩
    · refine ⟨_, rfl, _, _, _, _, true, rfl, .ty _, isi_int, kit_ty (by decide +kernel), true, rfl, iteT ?_⟩
      exact ⟨_, rfl, _, _, _, _, false, rfl, .ty _, isi_int, kit_ty (by decide +kernel), false, rfl, q⟩
    · rcases hp with hp | hp
      · exact ⟨_, rfl, _, _, _, _, false, rfl, .ty _, isi_tup hp, kit_ty (by decide +kernel), false, rfl, iteF q⟩
      · exact ⟨_, rfl, _, _, _, _, false, rfl, .ty _, isi_lst hp, kit_ty (by decide +kernel), false, rfl, iteF q⟩
def oV : Option Int → V
  | none => .non
  | some i => .int i
def loB (i : Int) : Option Int → Bool
  | none => true
  | some l => decide (l ≤ i)
def hiB (i : Int) : Option Int → Bool
  | none => true
  | some m => decide (i ≤ m)
def spIsWithin : Sp := fun vs H Q _ => ∃ i lo hi, vs = [.int i, oV lo, oV hi] ∧ Q (.bl (loB i lo && hiB i hi)) H
theorem ok_is_within (R : Row K mg "is_within" (top 9) ["value", "least", "most"]) (O : Okk P w K mg base "is_integer" 1 ["value"] spIsInteger) : Okk P w K mg base "is_within" 2 ["value", "least", "most"] spIsWithin := by
  refine okk R sc_is_within (fun vs H Q E h => ?_) (fun f cdv A outer s H vs Q E hr h => ?_)
  · obtain ⟨i, lo, hi, rfl, _⟩ := h
    rfl
  · obtain ⟨i, lo, hi, rfl, q⟩ := h
    refine ⟨_, pss_cons (ps_if (pt_not (pt_val (pe_cl O hr (pa_cons (pv 0) pa_nil)))) pss_never pss_nil)
      (pss_one (ps_ret (pe_and (pe_or (pe_cmpR op_isN (pv 1) pe_non (nomark _)) (pe_one (pe_cmpR op_le (pv 1) (pv 0) (nomark _))))
        (pe_one (pe_or (pe_cmpR op_isN (pv 2) pe_non (nomark _)) (pe_one (pe_cmpR op_le (pv 0) (pv 2) (nomark _)))))))), ?_⟩
    refine ⟨_, rfl, _, true, rfl, .inl ⟨i, rfl, rfl⟩, true, rfl, iteF ?_⟩
    have tail : Q (.bl (hiB i hi)) H → tOrV (tOp (fun x y H Q => y = .non ∧ Q (.bl (decide (x = .non))) H) (tVar 2) (tC .non)) (tOp (rI0 fun i j => .bl (decide (i ≤ j))) (tVar 0) (tVar 2)) [some (.int i), some (oV lo), some (oV hi)] H Q := fun q => by
      cases hi with
      | none => exact ⟨_, rfl, rfl, true, rfl, iteT q⟩
      | some m => exact ⟨_, rfl, rfl, false, rfl, iteF ⟨_, rfl, _, rfl, i, m, rfl, rfl, q⟩⟩
    cases lo with
    | none => exact ⟨_, rfl, rfl, true, rfl, iteT ⟨true, rfl, iteT (tail q)⟩⟩
    | some l =>
      refine ⟨_, rfl, rfl, false, rfl, iteF ⟨_, rfl, _, rfl, l, i, rfl, rfl, _, rfl, ?_⟩⟩
      have q' : Q (.bl (decide (l ≤ i) && hiB i hi)) H := q
      by_cases le : l ≤ i
      · rw [decide_eq_true le] at q' ⊢
        exact iteT (tail q')
      · rw [decide_eq_false le] at q' ⊢
        exact iteF q'
def spIsList : Sp := fun vs H Q _ => ∃ v b, vs = [v] ∧ IntOr H v (!b) ∧ ∀ H', Same H H' → Q (.bl b) H'
theorem kit_lt (n : String) (b c : Bool) (h : kitB n "list" = some b) (h2 : kitB n "tuple" = some c) : PySem.W.kitAny K (.type n) [.type "list", .type "tuple"] = some (b || c) :=
  kitAny_cons (kit_ty h) (fun e => by subst e; exact kitAny_cons (kit_ty h2) (fun e => by subst e; exact kitAny_nil) fun e => e) fun e => by subst e; rfl
theorem ok_is_list (R : Row K mg "is_list" (top 10) ["value"]) (gi : mg "isinstance" = none) (gl : mg "list" = none) (gt : mg "tuple" = none) : Okk P w K mg base "is_list" 1 ["value"] spIsList := by
  refine okk R sc_is_list (fun vs H Q E h => ?_) (fun f cdv A outer s H vs Q E hr h => ?_)
  · obtain ⟨v, b, rfl, _⟩ := h
    rfl
  · obtain ⟨v, b, rfl, hv, q⟩ := h
    refine ⟨_, pss_one (ps_ret (pe_callB call_isiT (by rfl) gi (by decide +kernel) (pa_cons (pv 0) (pa_cons (pe_tup (pa_cons (pe_bltn (v := .ty "list") (by rfl) gl (by decide +kernel) rfl) (pa_cons (pe_bltn (v := .ty "tuple") (by rfl) gt (by decide +kernel) rfl) pa_nil))) pa_nil)))), ?_⟩
    refine ⟨_, rfl, sz (by decide), fun p np => ?_⟩
    have s1 : Same H (upd H p (.tup [.ty "list", .ty "tuple"])) := same_upd np
    rcases hv.same s1 with ⟨i, rfl, eb⟩ | ⟨a, xs, rfl, ha, eb⟩
    · obtain rfl : b = false := by cases b <;> simp_all
      exact ⟨_, p, _, _, _, false, rfl, upd_same, .cons (.ty _) (.cons (.ty _) .nil), isi_int, kit_lt "int" false false (by decide +kernel) (by decide +kernel), q _ s1⟩
    · obtain rfl : b = true := by cases b <;> simp_all
      rcases ha with ha | ha
      · exact ⟨_, p, _, _, _, true, rfl, upd_same, .cons (.ty _) (.cons (.ty _) .nil), isi_tup ha, kit_lt "tuple" false true (by decide +kernel) (by decide +kernel), q _ s1⟩
      · exact ⟨_, p, _, _, _, true, rfl, upd_same, .cons (.ty _) (.cons (.ty _) .nil), isi_lst ha, kit_lt "list" true false (by decide +kernel) (by decide +kernel), q _ s1⟩
/-! ### common -/
def spCommon : Sp := fun vs H Q _ => ∃ a b : Int, vs = [.int a, .int b] ∧ Q (.int ((Int.gcd a b : Nat) : Int)) H
theorem ok_common (R : Row K mg "common" (top 11) ["one", "other"]) (ga : mg "abs" = none) : Okk P w K mg base "common" 1 ["one", "other"] spCommon := by
  refine okk R sc_common (fun vs H Q E h => ?_) (fun f cdv A outer s H vs Q E hr h => ?_)
  · obtain ⟨a, b, rfl, _⟩ := h
    rfl
  · obtain ⟨a, b, rfl, q⟩ := h
    refine ⟨_, pss_cons (ps_par (i := 0) (j := 1) (by rfl) sc_common.nd rfl rfl (by decide) rfl rfl (pa_cons (pe_callB call_abs (by rfl) ga (by decide +kernel) (pa_cons (pv 0) pa_nil)) (pa_cons (pe_callB call_abs (by rfl) ga (by decide +kernel) (pa_cons (pv 1) pa_nil)) pa_nil)) (by rfl))
      (pss_cons (ps_while PassesOwn.never (pt_cmpR op_gt (pv 1) pe_int (nomark _)) (pss_one (ps_par (i := 0) (j := 1) (by rfl) sc_common.nd rfl rfl (by decide) rfl rfl (pa_cons (pv 1) (pa_cons (pe_op op_modN (pv 0) (pv 1)) pa_nil)) (by rfl))))
      (pss_one (ps_ret (pv 0)))), ?_⟩
    refine ⟨_, rfl, a, rfl, _, rfl, b, rfl, _, _, rfl, ?_⟩
    have abs_nn : ∀ z : Int, 0 ≤ (if z < 0 then -z else z) := fun z => by split <;> omega
    have abs_na : ∀ z : Int, (if z < 0 then -z else z).natAbs = z.natAbs := fun z => by split <;> omega
    refine ⟨fun m σ H' => ∃ x y : Int, σ = [some (.int x), some (.int y)] ∧ H' = H ∧ 0 ≤ x ∧ 0 ≤ y ∧ Int.gcd x y = Int.gcd a b ∧ m = y.natAbs, ⟨_, _, _, rfl, rfl, abs_nn a, abs_nn b, ?_, rfl⟩, ?_⟩
    · show Nat.gcd _ _ = Nat.gcd _ _
      rw [abs_na, abs_na]
    · rintro m σ H' ⟨x, y, rfl, rfl, hx, hy, hg, rfl⟩
      refine ⟨_, rfl, y, 0, rfl, rfl, _, rfl, ite2 (fun c => ?_) (fun c => ?_)⟩
      · have yp : 0 < y := of_decide_eq_true c
        have q1 := fmod_lt (a := x) yp
        refine ⟨fun σ' H'' => ∃ x' y' : Int, σ' = [some (.int x'), some (.int y')] ∧ H'' = H' ∧ 0 ≤ x' ∧ 0 ≤ y' ∧ Int.gcd x' y' = Int.gcd a b ∧ y'.natAbs < y.natAbs, fun σ' H'' ⟨x', y', e, eH, h1, h2, h3, h4⟩ => ⟨_, h4, x', y', e, eH, h1, h2, h3, rfl⟩, ?_⟩
        refine ⟨_, rfl, _, rfl, _, rfl, x, y, rfl, rfl, by omega, _, _, rfl, ?_⟩
        exact ⟨y, x.fmod y, rfl, rfl, hy, q1.1, (gcd_turn hx yp).trans hg, by omega⟩
      · have y0 : y = 0 := by
          have : ¬ 0 < y := fun z => c (decide_eq_true z)
          omega
        subst y0
        refine ⟨_, rfl, ?_⟩
        have e := gcd_end hx
        rw [hg] at e
        rw [← e]
        exact q
/-! ### is_number, kept -/
def spIsNumber : Sp := fun vs H Q _ => ∃ v r, vs = [v] ∧ NumV H v r ∧ ∀ H', Same H H' → Q (.bl true) H'
theorem ok_is_number (R : Row K mg "is_number" (top 12) ["value"]) (gl : mg "len" = none) (O1 : Okk P w K mg base "is_integer" 1 ["value"] spIsInteger) (O2 : Okk P w K mg base "is_within" 2 ["value", "least", "most"] spIsWithin) (O3 : Okk P w K mg base "is_list" 1 ["value"] spIsList)
    (O4 : Okk P w K mg base "common" 1 ["one", "other"] spCommon) : Okk P w K mg base "is_number" 3 ["value"] spIsNumber := by
  refine okk R sc_is_number (fun vs H Q E h => ?_) (fun f cdv A outer s H vs Q E hr h => ?_)
  · obtain ⟨v, r, rfl, _⟩ := h
    rfl
  · obtain ⟨v, r, rfl, hv, q⟩ := h
    refine ⟨_, pss_cons (ps_if (pt_val (pe_cl O1 hr (pa_cons (pv 0) pa_nil))) (pss_one (ps_ret pe_bl)) pss_nil)
      (pss_cons (ps_if (PW.pt (pw_or (pt_not (pt_val (pe_cl O3 hr (pa_cons (pv 0) pa_nil)))) (pw_or (pt_cmpR op_ne (pe_callB call_len_seq (by rfl) gl PySem.boot_len (pa_cons (pv 0) pa_nil)) pe_int (nomark _))
          (pw_or1 (pt_not (pt_val (pe_cl O1 hr (pa_cons (pe_ix ix_tup (pv 0) pe_int (fun _ _ => rfl)) pa_nil)))))))) (pss_one (ps_ret pe_bl)) pss_nil)
      (pss_one (ps_ret (pe_and (pe_cl O2 hr (pa_cons (pe_ix ix_tup (pv 0) pe_int (fun _ _ => rfl)) (pa_cons pe_int (pa_cons pe_non pa_nil))))
        (pe_one (pe_cmpR op_eq (pe_cl O4 hr (pa_cons (pe_ix ix_tup (pv 0) pe_int (fun _ _ => rfl)) (pa_cons (pe_ix ix_tup (pv 0) pe_int (fun _ _ => rfl)) pa_nil))) pe_int (nomark _))))))), ?_⟩
    rcases hv with ⟨d, rfl⟩ | ⟨d, p, rfl, hp⟩
    · exact ⟨_, rfl, _, true, rfl, .inl ⟨_, rfl, rfl⟩, true, rfl, iteT (q H (Same.refl H))⟩
    · refine ⟨_, rfl, _, false, rfl, .inr ⟨p, _, rfl, .inl hp, rfl⟩, false, rfl, iteF ?_⟩
      refine ⟨_, rfl, _, true, rfl, .inr ⟨p, _, rfl, .inl hp, rfl⟩, fun H1 s1 => ⟨true, rfl, iteF ?_⟩⟩
      have h1 := s1 _ _ hp
      refine ⟨_, rfl, p, _, rfl, .inr (tupAt h1), rfl, _, rfl, iteNS rfl ?_⟩
      refine ⟨_, rfl, p, _, 0, .int r.num, rfl, rfl, tupAt h1, rfl, _, true, rfl, .inl ⟨_, rfl, rfl⟩, true, rfl, iteF ?_⟩
      refine ⟨_, rfl, p, _, 1, .int (r.den : Int), rfl, rfl, tupAt h1, rfl, _, some 2, none, rfl, true, ?_, iteT ?_⟩
      · have d0 := r.den_nz
        show V.bl (decide ((2 : Int) ≤ (r.den : Int)) && true) = V.bl true
        rw [decide_eq_true (show (2 : Int) ≤ (r.den : Int) by omega)]
        rfl
      · refine ⟨_, rfl, p, _, 0, .int r.num, rfl, rfl, tupAt h1, rfl, _, rfl, p, _, 1, .int (r.den : Int), rfl, rfl, tupAt h1, rfl, _, _, rfl, rfl, ?_⟩
        have g1 : Int.gcd r.num (r.den : Int) = 1 := r.reduced
        rw [g1, decide_eq_true (show V.int ((1 : Nat) : Int) = V.int 1 from rfl)]
        exact q H1 s1
def spKept : Sp := fun vs H Q _ => ∃ v r, vs = [v] ∧ NumV H v r ∧ ∀ H', Same H H' → Q v H'
theorem ok_kept (R : Row K mg "kept" (top 15) ["number"]) (gi : mg "isinstance" = none) (gl : mg "list" = none) (gt : mg "tuple" = none) : Okk P w K mg base "kept" 1 ["number"] spKept := by
  refine okk R sc_kept (fun vs H Q E h => ?_) (fun f cdv A outer s H vs Q E hr h => ?_)
  · obtain ⟨v, r, rfl, _⟩ := h
    rfl
  · obtain ⟨v, r, rfl, hv, q⟩ := h
    refine ⟨_, pss_one (ps_ret (pe_ifExp (pt_val (pe_callB call_isiT (by rfl) gi (by decide +kernel) (pa_cons (pv 0) (pa_cons (pe_tup (pa_cons (pe_bltn (v := .ty "list") (by rfl) gl (by decide +kernel) rfl) (pa_cons (pe_bltn (v := .ty "tuple") (by rfl) gt (by decide +kernel) rfl) pa_nil))) pa_nil))))
      (pe_callTy call_tupleT (by rfl) gt (by decide +kernel) (pa_cons (pv 0) pa_nil)) (pv 0))), ?_⟩
    refine ⟨_, rfl, sz (by decide), fun p np => ?_⟩
    have s1 : Same H (upd H p (.tup [.ty "list", .ty "tuple"])) := same_upd np
    rcases hv.same s1 with ⟨d, rfl⟩ | ⟨d, a, rfl, ha⟩
    · exact ⟨_, p, _, _, _, false, rfl, upd_same, .cons (.ty _) (.cons (.ty _) .nil), isi_int, kit_lt "int" false false (by decide +kernel) (by decide +kernel), false, rfl, iteF ⟨_, rfl, q _ s1⟩⟩
    · refine ⟨_, p, _, _, _, true, rfl, upd_same, .cons (.ty _) (.cons (.ty _) .nil), isi_tup ha, kit_lt "tuple" false true (by decide +kernel) (by decide +kernel), true, rfl, iteT ⟨_, rfl, a, _, rfl, tupAt ha, q _ s1⟩⟩
end
end Kd

namespace Kd
open PySem PySem.Spec PyProof.Rows L2 Pk
section
variable {P : Program} {w : World} {K : PySem.W.Frag} {mg : Str → Option Value} {base : Heap}
theorem s2 : 2 ≤ sizeLine := sz (by decide)
theorem s3 : 3 ≤ sizeLine := sz (by decide)
/-! ### halves -/
def spHalves : Sp := fun vs H Q _ => ∃ v r, vs = [v] ∧ NumV H v r ∧ ∀ H' p, Same H H' → H' p = some (.tup [.int r.num, .int (r.den : Int)]) → Q (.ref p) H'
theorem ok_halves (R : Row K mg "halves" (top 21) ["number"]) (gi : mg "isinstance" = none) (gn : mg "int" = none) : Okk P w K mg base "halves" 1 ["number"] spHalves := by
  refine okk R sc_halves (fun vs H Q E h => ?_) (fun f cdv A outer s H vs Q E hr h => ?_)
  · obtain ⟨v, r, rfl, _⟩ := h
    rfl
  · obtain ⟨v, r, rfl, hv, q⟩ := h
    refine ⟨_, pss_one (ps_ret (pe_ifExp (pt_val (pe_callB call_isi (by rfl) gi (by decide +kernel) (pa_cons (pv 0) (pa_cons (pe_bltn (v := .ty "int") (by rfl) gn (by decide +kernel) rfl) pa_nil))))
      (pe_tup (pa_cons (pv 0) (pa_cons pe_int pa_nil))) (pe_tup (pa_cons (pe_ix ix_tup (pv 0) pe_int (fun _ _ => rfl)) (pa_cons (pe_ix ix_tup (pv 0) pe_int (fun _ _ => rfl)) pa_nil))))), ?_⟩
    rcases hv with ⟨d, rfl⟩ | ⟨d, a, rfl, ha⟩
    · refine ⟨_, rfl, _, _, _, _, true, rfl, .ty _, isi_int, kit_ty (by decide +kernel), true, rfl, iteT ⟨_, rfl, s2, fun p np => ?_⟩⟩
      refine q _ p (same_upd np) ?_
      rw [upd_same, d]
      rfl
    · refine ⟨_, rfl, _, _, _, _, false, rfl, .ty _, isi_tup ha, kit_ty (by decide +kernel), false, rfl, iteF ?_⟩
      refine ⟨_, rfl, a, _, 0, .int r.num, rfl, rfl, tupAt ha, rfl, _, rfl, a, _, 1, .int (r.den : Int), rfl, rfl, tupAt ha, rfl, s2, fun p np => ?_⟩
      exact q _ p (same_upd np) upd_same
theorem ok_both (R : Row K mg "_law_both" (top 56) ["_law_number"]) (gi : mg "isinstance" = none) (gn : mg "int" = none) : Okk P w K mg base "_law_both" 1 ["_law_number"] spHalves := by
  refine okk R sc_law_both (fun vs H Q E h => ?_) (fun f cdv A outer s H vs Q E hr h => ?_)
  · obtain ⟨v, r, rfl, _⟩ := h
    rfl
  · obtain ⟨v, r, rfl, hv, q⟩ := h
    refine ⟨_, pss_one (ps_ret (pe_ifExp (pt_val (pe_callB call_isi (by rfl) gi (by decide +kernel) (pa_cons (pv 0) (pa_cons (pe_bltn (v := .ty "int") (by rfl) gn (by decide +kernel) rfl) pa_nil))))
      (pe_tup (pa_cons (pv 0) (pa_cons pe_int pa_nil))) (pe_tup (pa_cons (pe_ix ix_tup (pv 0) pe_int (fun _ _ => rfl)) (pa_cons (pe_ix ix_tup (pv 0) pe_int (fun _ _ => rfl)) pa_nil))))), ?_⟩
    rcases hv with ⟨d, rfl⟩ | ⟨d, a, rfl, ha⟩
    · refine ⟨_, rfl, _, _, _, _, true, rfl, .ty _, isi_int, kit_ty (by decide +kernel), true, rfl, iteT ⟨_, rfl, s2, fun p np => ?_⟩⟩
      refine q _ p (same_upd np) ?_
      rw [upd_same, d]
      rfl
    · refine ⟨_, rfl, _, _, _, _, false, rfl, .ty _, isi_tup ha, kit_ty (by decide +kernel), false, rfl, iteF ?_⟩
      refine ⟨_, rfl, a, _, 0, .int r.num, rfl, rfl, tupAt ha, rfl, _, rfl, a, _, 1, .int (r.den : Int), rfl, rfl, tupAt ha, rfl, s2, fun p np => ?_⟩
      exact q _ p (same_upd np) upd_same
/-! ### lowest -/
def LowP (a b : Int) : Prop := b ≠ 0 ∧ b.natAbs < 2 ^ 8900
def spLowest : Sp := fun vs H Q _ => ∃ a b : Int, vs = [.int a, .int b] ∧ LowP a b ∧ Out H Q fun v H' => NumV H' v (Rat.divInt a b)
theorem part_cond {a b : Int} (h : LowP a b) : part a b ≠ 0 ∧ (part a b).natAbs.log2 < 9000 := by
  refine ⟨part_ne h.1, ?_⟩
  refine Nat.lt_of_lt_of_le (PySem.Flt.log2_lt_of (k := 8900) (by decide) (Nat.lt_of_le_of_lt ?_ h.2)) (by decide)
  rw [part_abs]
  exact gcd_le h.1
theorem ok_lowest (R : Row K mg "lowest" (top 22) ["above", "under"]) (O : Okk P w K mg base "common" 1 ["one", "other"] spCommon) : Okk P w K mg base "lowest" 2 ["above", "under"] spLowest := by
  refine okk R sc_lowest (fun vs H Q E h => ?_) (fun f cdv A outer s H vs Q E hr h => ?_)
  · obtain ⟨a, b, rfl, _⟩ := h
    rfl
  · obtain ⟨a, b, rfl, lp, q⟩ := h
    have nd := sc_lowest.nd
    refine ⟨_, pss_cons (ps_set (i := 2) nd rfl (.inl rfl) (pe_cl O hr (pa_cons (pv 0) (pa_cons (pv 1) pa_nil))))
      (pss_cons (ps_set (i := 2) nd rfl (.inl rfl) (pe_ifExp (pt_cmpR op_lt (pv 1) pe_int (nomark _)) (pe_un un_neg (pv 2)) (pv 2)))
      (pss_cons (ps_par (i := 0) (j := 1) (by rfl) nd rfl rfl (by decide) rfl rfl (pa_cons (pe_op op_fdivZ (pv 0) (pv 2)) (pa_cons (pe_op op_fdivZ (pv 1) (pv 2)) pa_nil)) (by rfl))
      (pss_one (ps_ret (pe_ifExp (pt_cmpR op_eq (pv 1) pe_int (nomark _)) (pv 0) (pe_tup (pa_cons (pv 0) (pa_cons (pv 1) pa_nil)))))))), ?_⟩
    refine ⟨_, rfl, _, rfl, a, b, rfl, ?_⟩
    have tail : ∀ z : Int, z = part a b → tSeq (tPar 0 1 (tCons (tOp (rI (fun _ j => j ≠ 0 ∧ j.natAbs.log2 < 9000) fun i j => .int (i.fdiv j)) (tVar 0) (tVar 2)) (tCons (tOp (rI (fun _ j => j ≠ 0 ∧ j.natAbs.log2 < 9000) fun i j => .int (i.fdiv j)) (tVar 1) (tVar 2)) tNil)))
        (tRet (tIf (tTest (tOp rEq (tVar 1) (tC (.int 1)))) (tVar 0) (tTup (tCons (tVar 0) (tCons (tVar 1) tNil))))) { nx := fun _ H' => Q .non H', rt := Q } [some (.int a), some (.int b), some (.int z)] H := fun z e => by
      subst e
      have pc := part_cond lp
      have pr := low_pair (a := a) lp.1
      refine ⟨_, rfl, _, rfl, a, part a b, rfl, rfl, pc, _, rfl, _, rfl, b, part a b, rfl, rfl, pc, _, _, rfl, ?_⟩
      dsimp only
      rw [pr.1, pr.2]
      refine ⟨_, rfl, rfl, _, rfl, ite2 (fun c => ?_) (fun c => ?_)⟩
      · have e1 : ((Rat.divInt a b).den : Int) = 1 := V.int.inj (of_decide_eq_true c)
        exact ⟨_, rfl, q _ _ (Same.refl H) (.inl ⟨by omega, rfl⟩)⟩
      · refine ⟨_, rfl, _, rfl, s2, fun p np => ?_⟩
        refine q _ _ (same_upd np) (.inr ⟨fun z => c (decide_eq_true ?_), p, rfl, upd_same⟩)
        rw [z]
        rfl
    refine ⟨_, rfl, b, 0, rfl, rfl, _, rfl, ite2 (fun c => ?_) (fun c => ?_)⟩
    · have bn : b < 0 := of_decide_eq_true c
      refine ⟨_, rfl, _, rfl, ?_⟩
      exact tail _ (by unfold Pk.part; rw [if_pos bn])
    · have bn : ¬ b < 0 := fun z => c (decide_eq_true z)
      refine ⟨_, rfl, ?_⟩
      exact tail _ (by unfold Pk.part; rw [if_neg bn])
theorem ok_low (R : Row K mg "_law_low" (top 57) ["_law_above", "_law_under"]) (ga : mg "abs" = none) (gn : mg "int" = none) : Okk P w K mg base "_law_low" 1 ["_law_above", "_law_under"] spLowest := by
  refine okk R sc_law_low (fun vs H Q E h => ?_) (fun f cdv A outer s H vs Q E hr h => ?_)
  · obtain ⟨a, b, rfl, _⟩ := h
    rfl
  · obtain ⟨a, b, rfl, lp, q⟩ := h
    have nd := sc_law_low.nd
    refine ⟨_, pss_cons (ps_par (i := 2) (j := 3) (by rfl) nd rfl rfl (by decide) rfl rfl (pa_cons (pe_callB call_abs (by rfl) ga (by decide +kernel) (pa_cons (pv 0) pa_nil)) (pa_cons (pe_callB call_abs (by rfl) ga (by decide +kernel) (pa_cons (pv 1) pa_nil)) pa_nil)) (by rfl))
      (pss_cons (ps_while PassesOwn.never (pt_cmpR op_gt (pv 3) pe_int (nomark _)) (pss_one (ps_par (i := 2) (j := 3) (by rfl) nd rfl rfl (by decide) rfl rfl (pa_cons (pv 3) (pa_cons (pe_op op_modN (pe_callTy call_int1 (by rfl) gn (by decide +kernel) (pa_cons (pv 2) pa_nil)) (pv 3)) pa_nil)) (by rfl))))
      (pss_cons (ps_set (i := 2) nd rfl (.inl rfl) (pe_ifExp (pt_cmpR op_gt (pv 1) pe_int (nomark _)) (pv 2) (pe_un un_neg (pv 2))))
      (pss_one (ps_ret (pe_ifExp (pt_cmpR op_eq (pv 1) (pv 2) (nomark _)) (pe_op op_fdivZ (pv 0) (pv 2)) (pe_tup (pa_cons (pe_op op_fdivZ (pv 0) (pv 2)) (pa_cons (pe_op op_fdivZ (pv 1) (pv 2)) pa_nil)))))))), ?_⟩
    refine ⟨_, rfl, a, rfl, _, rfl, b, rfl, _, _, rfl, ?_⟩
    have abs_nn : ∀ z : Int, 0 ≤ (if z < 0 then -z else z) := fun z => by split <;> omega
    have abs_na : ∀ z : Int, (if z < 0 then -z else z).natAbs = z.natAbs := fun z => by split <;> omega
    have tail : ∀ z : Int, z = part a b → tRet (tIf (tTest (tOp rEq (tVar 1) (tVar 2))) (tOp (rI (fun _ j => j ≠ 0 ∧ j.natAbs.log2 < 9000) fun i j => .int (i.fdiv j)) (tVar 0) (tVar 2)) (tTup (tCons (tOp (rI (fun _ j => j ≠ 0 ∧ j.natAbs.log2 < 9000) fun i j => .int (i.fdiv j)) (tVar 0) (tVar 2)) (tCons (tOp (rI (fun _ j => j ≠ 0 ∧ j.natAbs.log2 < 9000) fun i j => .int (i.fdiv j)) (tVar 1) (tVar 2)) tNil))))
        { nx := fun _ H' => Q .non H', rt := Q } [some (.int a), some (.int b), some (.int z), some (.int 0)] H := fun z e => by
      subst e
      have pc := part_cond lp
      have pr := low_pair (a := a) lp.1
      have po := low_one (a := a) lp.1
      refine ⟨_, rfl, _, rfl, rfl, _, rfl, ite2 (fun c => ?_) (fun c => ?_)⟩
      · have e1 : b = part a b := V.int.inj (of_decide_eq_true c)
        refine ⟨_, rfl, _, rfl, a, part a b, rfl, rfl, pc, ?_⟩
        show Q (.int (a.fdiv (Pk.part a b))) H
        rw [pr.1]
        exact q _ _ (Same.refl H) (.inl ⟨po.mp e1, rfl⟩)
      · refine ⟨_, rfl, _, rfl, a, part a b, rfl, rfl, pc, _, rfl, _, rfl, b, part a b, rfl, rfl, pc, s2, fun p np => ?_⟩
        dsimp only
        rw [pr.1, pr.2]
        exact q _ _ (same_upd np) (.inr ⟨fun z => c (decide_eq_true (congrArg V.int (po.mpr z))), p, rfl, upd_same⟩)
    refine ⟨fun m σ H' => ∃ x y : Int, σ = [some (.int a), some (.int b), some (.int x), some (.int y)] ∧ H' = H ∧ 0 ≤ x ∧ 0 ≤ y ∧ Int.gcd x y = Int.gcd a b ∧ m = y.natAbs, ⟨_, _, _, rfl, rfl, abs_nn a, abs_nn b, ?_, rfl⟩, ?_⟩
    · show Nat.gcd _ _ = Nat.gcd _ _
      rw [abs_na, abs_na]
    · rintro m σ H' ⟨x, y, rfl, rfl, hx, hy, hg, rfl⟩
      refine ⟨_, rfl, y, 0, rfl, rfl, _, rfl, ite2 (fun c => ?_) (fun c => ?_)⟩
      · have yp : 0 < y := of_decide_eq_true c
        have q1 := fmod_lt (a := x) yp
        refine ⟨fun σ' H'' => ∃ x' y' : Int, σ' = [some (.int a), some (.int b), some (.int x'), some (.int y')] ∧ H'' = H' ∧ 0 ≤ x' ∧ 0 ≤ y' ∧ Int.gcd x' y' = Int.gcd a b ∧ y'.natAbs < y.natAbs, fun σ' H'' ⟨x', y', e, eH, h1, h2, h3, h4⟩ => ⟨_, h4, x', y', e, eH, h1, h2, h3, rfl⟩, ?_⟩
        refine ⟨_, rfl, _, rfl, .inl ⟨x, rfl, _, rfl, x, y, rfl, rfl, by omega, _, _, rfl, ?_⟩⟩
        exact ⟨y, x.fmod y, rfl, rfl, hy, q1.1, (gcd_turn hx yp).trans hg, by omega⟩
      · have y0 : y = 0 := by
          have : ¬ 0 < y := fun z => c (decide_eq_true z)
          omega
        subst y0
        have e := gcd_end hx
        rw [hg] at e
        have b0 := lp.1
        refine ⟨_, rfl, b, 0, rfl, rfl, _, rfl, ite2 (fun c => ?_) (fun c => ?_)⟩
        · have bp : 0 < b := of_decide_eq_true c
          refine ⟨_, rfl, ?_⟩
          exact tail _ (by unfold Pk.part; rw [if_neg (by omega), e])
        · have bp : ¬ 0 < b := fun z => c (decide_eq_true z)
          refine ⟨_, rfl, _, rfl, ?_⟩
          exact tail _ (by unfold Pk.part; rw [if_pos (by omega), e])
end
end Kd

namespace Kd
open PySem PySem.Spec PyProof.Rows L2 Pk
/-! ### two numbers: what is asked, what is given -/
def spBin (g : Rat → Rat → Rat) (C : Rat → Rat → Prop) : Sp := fun vs H Q _ => ∃ v1 v2 r1 r2, vs = [v1, v2] ∧ NumV H v1 r1 ∧ NumV H v2 r2 ∧ NB 4000 r1 ∧ NB 4000 r2 ∧ C r1 r2 ∧ Out H Q fun v H' => NumV H' v (g r1 r2)
abbrev spAdd : Sp := spBin (fun a b => a + b) fun _ _ => True
abbrev spMul : Sp := spBin (fun a b => a * b) fun _ _ => True
abbrev spDiv : Sp := spBin (fun a b => a / b) fun _ b => b ≠ 0
theorem mulw {i j : Int} (h1 : i.natAbs < 2 ^ 4000) (h2 : j.natAbs < 2 ^ 4000) : CMulW i j := wide_mul h1 h2 (by decide) (by decide) (by decide)
theorem nbd {r : Rat} (h : NB 4000 r) : (r.den : Int).natAbs < 2 ^ 4000 := by rw [Int.natAbs_natCast]; exact h.den
theorem lt_mul {i j : Int} (h1 : i.natAbs < 2 ^ 4000) (h2 : j.natAbs < 2 ^ 4000) : (i * j).natAbs < 2 ^ 8900 :=
  Nat.lt_of_lt_of_le (wide_lt h1 h2) (Nat.pow_le_pow_right (by decide) (by decide))
section
variable {P : Program} {w : World} {K : PySem.W.Frag} {mg : Str → Option Value} {base : Heap}
theorem ok_added (R : Row K mg "added" (top 23) ["one", "other"]) (OH : Okk P w K mg base "halves" 1 ["number"] spHalves) (OL : Okk P w K mg base "lowest" 2 ["above", "under"] spLowest) : Okk P w K mg base "added" 3 ["one", "other"] spAdd := by
  refine okk R sc_added (fun vs H Q E h => ?_) (fun f cdv A outer s H vs Q E hr h => ?_)
  · obtain ⟨v1, v2, r1, r2, rfl, _⟩ := h
    rfl
  · obtain ⟨v1, v2, r1, r2, rfl, n1, n2, b1, b2, cc, q⟩ := h
    have nd := sc_added.nd
    refine ⟨_, pss_cons (ps_asg (pe_tup (pa_cons (pe_cl OH hr (pa_cons (pv 0) pa_nil)) (pa_cons (pe_cl OH hr (pa_cons (pv 1) pa_nil)) pa_nil))) (pg_tup rfl (pgs_cons (pg_tup rfl (pgs_cons (pg_name (i := 2) nd rfl (Or.inl rfl)) (pgs_cons (pg_name (i := 3) nd rfl (Or.inl rfl)) pgs_nil))) (pgs_cons (pg_tup rfl (pgs_cons (pg_name (i := 4) nd rfl (Or.inl rfl)) (pgs_cons (pg_name (i := 5) nd rfl (Or.inl rfl)) pgs_nil))) pgs_nil))))
      (pss_one (ps_ret (pe_cl OL hr (pa_cons (pe_op op_add (pe_op op_mulW (pv 2) (pv 5)) (pe_op op_mulW (pv 4) (pv 3))) (pa_cons (pe_op op_mulW (pv 3) (pv 5)) pa_nil))))), ?_⟩
    refine ⟨_, rfl, v1, r1, rfl, n1, fun H1 p1 s1 e1 => ⟨_, rfl, v2, r2, rfl, n2.same s1, fun H2 p2 s2' e2 => ⟨s2, fun p np => ?_⟩⟩⟩
    have s3' : Same H2 (upd H2 p (.tup [.ref p1, .ref p2])) := same_upd np
    refine ⟨p, _, rfl, tupAt upd_same, rfl, _, _, rfl, p1, _, rfl, tupAt (s3' _ _ (s2' _ _ e1)), rfl, _, _, rfl, _, _, rfl, rfl, _, _, rfl, p2, _, rfl, tupAt (s3' _ _ e2), rfl, _, _, rfl, _, _, rfl, rfl, rfl, ?_⟩
    refine ⟨_, rfl, _, rfl, _, _, rfl, rfl, mulw b1.num (nbd b2), _, rfl, _, rfl, _, _, rfl, rfl, mulw b2.num (nbd b1), _, _, rfl, rfl, _, rfl, _, rfl, _, _, rfl, rfl, mulw (nbd b1) (nbd b2), _, _, rfl, ⟨dd_ne r1 r2, lt_mul (nbd b1) (nbd b2)⟩, fun v H4 s4 e4 => ?_⟩
    dsimp only at e4
    rw [add_eq] at e4
    exact q v H4 (((s1.trans s2').trans s3').trans s4) e4
theorem ok_product (R : Row K mg "product" (top 25) ["one", "other"]) (OH : Okk P w K mg base "halves" 1 ["number"] spHalves) (OL : Okk P w K mg base "lowest" 2 ["above", "under"] spLowest) : Okk P w K mg base "product" 3 ["one", "other"] spMul := by
  refine okk R sc_product (fun vs H Q E h => ?_) (fun f cdv A outer s H vs Q E hr h => ?_)
  · obtain ⟨v1, v2, r1, r2, rfl, _⟩ := h
    rfl
  · obtain ⟨v1, v2, r1, r2, rfl, n1, n2, b1, b2, cc, q⟩ := h
    have nd := sc_product.nd
    refine ⟨_, pss_cons (ps_asg (pe_tup (pa_cons (pe_cl OH hr (pa_cons (pv 0) pa_nil)) (pa_cons (pe_cl OH hr (pa_cons (pv 1) pa_nil)) pa_nil))) (pg_tup rfl (pgs_cons (pg_tup rfl (pgs_cons (pg_name (i := 2) nd rfl (Or.inl rfl)) (pgs_cons (pg_name (i := 3) nd rfl (Or.inl rfl)) pgs_nil))) (pgs_cons (pg_tup rfl (pgs_cons (pg_name (i := 4) nd rfl (Or.inl rfl)) (pgs_cons (pg_name (i := 5) nd rfl (Or.inl rfl)) pgs_nil))) pgs_nil))))
      (pss_one (ps_ret (pe_cl OL hr (pa_cons (pe_op op_mulW (pv 2) (pv 4)) (pa_cons (pe_op op_mulW (pv 3) (pv 5)) pa_nil))))), ?_⟩
    refine ⟨_, rfl, v1, r1, rfl, n1, fun H1 p1 s1 e1 => ⟨_, rfl, v2, r2, rfl, n2.same s1, fun H2 p2 s2' e2 => ⟨s2, fun p np => ?_⟩⟩⟩
    have s3' : Same H2 (upd H2 p (.tup [.ref p1, .ref p2])) := same_upd np
    refine ⟨p, _, rfl, tupAt upd_same, rfl, _, _, rfl, p1, _, rfl, tupAt (s3' _ _ (s2' _ _ e1)), rfl, _, _, rfl, _, _, rfl, rfl, _, _, rfl, p2, _, rfl, tupAt (s3' _ _ e2), rfl, _, _, rfl, _, _, rfl, rfl, rfl, ?_⟩
    refine ⟨_, rfl, _, rfl, _, _, rfl, rfl, mulw b1.num b2.num, _, rfl, _, rfl, _, _, rfl, rfl, mulw (nbd b1) (nbd b2), _, _, rfl, ⟨dd_ne r1 r2, lt_mul (nbd b1) (nbd b2)⟩, fun v H4 s4 e4 => ?_⟩
    dsimp only at e4
    rw [mul_eq] at e4
    exact q v H4 (((s1.trans s2').trans s3').trans s4) e4
theorem ok_part_by (R : Row K mg "part_by" (top 26) ["one", "other"]) (OH : Okk P w K mg base "halves" 1 ["number"] spHalves) (OL : Okk P w K mg base "lowest" 2 ["above", "under"] spLowest) : Okk P w K mg base "part_by" 3 ["one", "other"] spDiv := by
  refine okk R sc_part_by (fun vs H Q E h => ?_) (fun f cdv A outer s H vs Q E hr h => ?_)
  · obtain ⟨v1, v2, r1, r2, rfl, _⟩ := h
    rfl
  · obtain ⟨v1, v2, r1, r2, rfl, n1, n2, b1, b2, cc, q⟩ := h
    have nd := sc_part_by.nd
    refine ⟨_, pss_cons (ps_asg (pe_tup (pa_cons (pe_cl OH hr (pa_cons (pv 0) pa_nil)) (pa_cons (pe_cl OH hr (pa_cons (pv 1) pa_nil)) pa_nil))) (pg_tup rfl (pgs_cons (pg_tup rfl (pgs_cons (pg_name (i := 2) nd rfl (Or.inl rfl)) (pgs_cons (pg_name (i := 3) nd rfl (Or.inl rfl)) pgs_nil))) (pgs_cons (pg_tup rfl (pgs_cons (pg_name (i := 4) nd rfl (Or.inl rfl)) (pgs_cons (pg_name (i := 5) nd rfl (Or.inl rfl)) pgs_nil))) pgs_nil))))
      (pss_one (ps_ret (pe_cl OL hr (pa_cons (pe_op op_mulW (pv 2) (pv 5)) (pa_cons (pe_op op_mulW (pv 3) (pv 4)) pa_nil))))), ?_⟩
    refine ⟨_, rfl, v1, r1, rfl, n1, fun H1 p1 s1 e1 => ⟨_, rfl, v2, r2, rfl, n2.same s1, fun H2 p2 s2' e2 => ⟨s2, fun p np => ?_⟩⟩⟩
    have s3' : Same H2 (upd H2 p (.tup [.ref p1, .ref p2])) := same_upd np
    refine ⟨p, _, rfl, tupAt upd_same, rfl, _, _, rfl, p1, _, rfl, tupAt (s3' _ _ (s2' _ _ e1)), rfl, _, _, rfl, _, _, rfl, rfl, _, _, rfl, p2, _, rfl, tupAt (s3' _ _ e2), rfl, _, _, rfl, _, _, rfl, rfl, rfl, ?_⟩
    refine ⟨_, rfl, _, rfl, _, _, rfl, rfl, mulw b1.num (nbd b2), _, rfl, _, rfl, _, _, rfl, rfl, mulw (nbd b1) b2.num, _, _, rfl, ⟨Int.mul_ne_zero (by have := r1.den_nz; omega) (num_ne cc), lt_mul (nbd b1) b2.num⟩, fun v H4 s4 e4 => ?_⟩
    dsimp only at e4
    rw [div_eq] at e4
    exact q v H4 (((s1.trans s2').trans s3').trans s4) e4
theorem ok_law_plus (R : Row K mg "_law_plus" (top 58) ["_law_one", "_law_other"]) (OH : Okk P w K mg base "_law_both" 1 ["_law_number"] spHalves) (OL : Okk P w K mg base "_law_low" 1 ["_law_above", "_law_under"] spLowest) : Okk P w K mg base "_law_plus" 3 ["_law_one", "_law_other"] spAdd := by
  refine okk R sc_law_plus (fun vs H Q E h => ?_) (fun f cdv A outer s H vs Q E hr h => ?_)
  · obtain ⟨v1, v2, r1, r2, rfl, _⟩ := h
    rfl
  · obtain ⟨v1, v2, r1, r2, rfl, n1, n2, b1, b2, cc, q⟩ := h
    have nd := sc_law_plus.nd
    refine ⟨_, pss_cons (ps_asg (pe_tup (pa_cons (pe_cl OH hr (pa_cons (pv 0) pa_nil)) (pa_cons (pe_cl OH hr (pa_cons (pv 1) pa_nil)) pa_nil))) (pg_tup rfl (pgs_cons (pg_tup rfl (pgs_cons (pg_name (i := 2) nd rfl (Or.inl rfl)) (pgs_cons (pg_name (i := 3) nd rfl (Or.inl rfl)) pgs_nil))) (pgs_cons (pg_tup rfl (pgs_cons (pg_name (i := 4) nd rfl (Or.inl rfl)) (pgs_cons (pg_name (i := 5) nd rfl (Or.inl rfl)) pgs_nil))) pgs_nil))))
      (pss_one (ps_ret (pe_cl OL hr (pa_cons (pe_op op_add (pe_op op_mulW (pv 2) (pv 5)) (pe_op op_mulW (pv 4) (pv 3))) (pa_cons (pe_op op_mulW (pv 3) (pv 5)) pa_nil))))), ?_⟩
    refine ⟨_, rfl, v1, r1, rfl, n1, fun H1 p1 s1 e1 => ⟨_, rfl, v2, r2, rfl, n2.same s1, fun H2 p2 s2' e2 => ⟨s2, fun p np => ?_⟩⟩⟩
    have s3' : Same H2 (upd H2 p (.tup [.ref p1, .ref p2])) := same_upd np
    refine ⟨p, _, rfl, tupAt upd_same, rfl, _, _, rfl, p1, _, rfl, tupAt (s3' _ _ (s2' _ _ e1)), rfl, _, _, rfl, _, _, rfl, rfl, _, _, rfl, p2, _, rfl, tupAt (s3' _ _ e2), rfl, _, _, rfl, _, _, rfl, rfl, rfl, ?_⟩
    refine ⟨_, rfl, _, rfl, _, _, rfl, rfl, mulw b1.num (nbd b2), _, rfl, _, rfl, _, _, rfl, rfl, mulw b2.num (nbd b1), _, _, rfl, rfl, _, rfl, _, rfl, _, _, rfl, rfl, mulw (nbd b1) (nbd b2), _, _, rfl, ⟨dd_ne r1 r2, lt_mul (nbd b1) (nbd b2)⟩, fun v H4 s4 e4 => ?_⟩
    dsimp only at e4
    rw [add_eq] at e4
    exact q v H4 (((s1.trans s2').trans s3').trans s4) e4
theorem ok_law_times (R : Row K mg "_law_times" (top 59) ["_law_one", "_law_other"]) (OH : Okk P w K mg base "_law_both" 1 ["_law_number"] spHalves) (OL : Okk P w K mg base "_law_low" 1 ["_law_above", "_law_under"] spLowest) : Okk P w K mg base "_law_times" 3 ["_law_one", "_law_other"] spMul := by
  refine okk R sc_law_times (fun vs H Q E h => ?_) (fun f cdv A outer s H vs Q E hr h => ?_)
  · obtain ⟨v1, v2, r1, r2, rfl, _⟩ := h
    rfl
  · obtain ⟨v1, v2, r1, r2, rfl, n1, n2, b1, b2, cc, q⟩ := h
    have nd := sc_law_times.nd
    refine ⟨_, pss_cons (ps_asg (pe_tup (pa_cons (pe_cl OH hr (pa_cons (pv 0) pa_nil)) (pa_cons (pe_cl OH hr (pa_cons (pv 1) pa_nil)) pa_nil))) (pg_tup rfl (pgs_cons (pg_tup rfl (pgs_cons (pg_name (i := 2) nd rfl (Or.inl rfl)) (pgs_cons (pg_name (i := 3) nd rfl (Or.inl rfl)) pgs_nil))) (pgs_cons (pg_tup rfl (pgs_cons (pg_name (i := 4) nd rfl (Or.inl rfl)) (pgs_cons (pg_name (i := 5) nd rfl (Or.inl rfl)) pgs_nil))) pgs_nil))))
      (pss_one (ps_ret (pe_cl OL hr (pa_cons (pe_op op_mulW (pv 2) (pv 4)) (pa_cons (pe_op op_mulW (pv 3) (pv 5)) pa_nil))))), ?_⟩
    refine ⟨_, rfl, v1, r1, rfl, n1, fun H1 p1 s1 e1 => ⟨_, rfl, v2, r2, rfl, n2.same s1, fun H2 p2 s2' e2 => ⟨s2, fun p np => ?_⟩⟩⟩
    have s3' : Same H2 (upd H2 p (.tup [.ref p1, .ref p2])) := same_upd np
    refine ⟨p, _, rfl, tupAt upd_same, rfl, _, _, rfl, p1, _, rfl, tupAt (s3' _ _ (s2' _ _ e1)), rfl, _, _, rfl, _, _, rfl, rfl, _, _, rfl, p2, _, rfl, tupAt (s3' _ _ e2), rfl, _, _, rfl, _, _, rfl, rfl, rfl, ?_⟩
    refine ⟨_, rfl, _, rfl, _, _, rfl, rfl, mulw b1.num b2.num, _, rfl, _, rfl, _, _, rfl, rfl, mulw (nbd b1) (nbd b2), _, _, rfl, ⟨dd_ne r1 r2, lt_mul (nbd b1) (nbd b2)⟩, fun v H4 s4 e4 => ?_⟩
    dsimp only at e4
    rw [mul_eq] at e4
    exact q v H4 (((s1.trans s2').trans s3').trans s4) e4
/-! ### turned -/
def spTurned : Sp := fun vs H Q _ => ∃ v r, vs = [v] ∧ NumV H v r ∧ Out H Q fun v H' => NumV H' v (-r)
theorem ok_turned (R : Row K mg "turned" (top 24) ["number"]) (OH : Okk P w K mg base "halves" 1 ["number"] spHalves) : Okk P w K mg base "turned" 2 ["number"] spTurned := by
  refine okk R sc_turned (fun vs H Q E h => ?_) (fun f cdv A outer s H vs Q E hr h => ?_)
  · obtain ⟨v, r, rfl, _⟩ := h
    rfl
  · obtain ⟨v, r, rfl, hv, q⟩ := h
    have nd := sc_turned.nd
    refine ⟨_, pss_cons (ps_asg (pe_cl OH hr (pa_cons (pv 0) pa_nil)) (pg_tup rfl (pgs_cons (pg_name (i := 1) nd rfl (Or.inl rfl)) (pgs_cons (pg_name (i := 2) nd rfl (Or.inl rfl)) pgs_nil))))
      (pss_one (ps_ret (pe_ifExp (pt_cmpR op_eq (pv 2) pe_int (nomark _)) (pe_un un_neg (pv 1)) (pe_tup (pa_cons (pe_un un_neg (pv 1)) (pa_cons (pv 2) pa_nil)))))), ?_⟩
    refine ⟨_, rfl, v, r, rfl, hv, fun H1 p1 s1 e1 => ⟨p1, _, rfl, tupAt e1, rfl, _, _, rfl, _, _, rfl, rfl, ?_⟩⟩
    refine ⟨_, rfl, rfl, _, rfl, ite2 (fun c => ?_) (fun c => ?_)⟩
    · have e : (r.den : Int) = 1 := V.int.inj (of_decide_eq_true c)
      exact ⟨_, rfl, _, rfl, q _ _ s1 (.inl ⟨by rw [Rat.neg_den]; omega, by rw [Rat.neg_num]⟩)⟩
    · refine ⟨_, rfl, _, rfl, _, rfl, s2, fun p np => ?_⟩
      refine q _ _ (s1.trans (same_upd np)) (.inr ⟨fun z => c (decide_eq_true ?_), p, rfl, ?_⟩)
      · rw [Rat.neg_den] at z
        rw [z]
        rfl
      · rw [upd_same, Rat.neg_den, Rat.neg_num]
end
end Kd

namespace Kd
open PySem PySem.Spec PyProof.Rows L2 Pk
/-! ### defs that are only called where no repr is under way -/
section
variable (P : Program) (w : World) (K : PySem.W.Frag) (mg : Str → Option Value) (base : Heap)
/-- the promise of a def, kept where nothing is being shown -/
structure FnG (k : Nat) (f : Addr) (fd : FuncData) (ps : List Str) (sp : Sp) : Prop where
  width : ∀ vs H Q E, sp vs H Q E → vs.length = ps.length
  go : ∀ (A : Around) (outer : List Env) (s : Shared) (H : Hp) (args : Args) (us : List Value) (vs : List V) (Q : VK) (E : XK), A.guards = some [] → Room k A → Env0 P w K mg base A outer s H → BindsTo s fd args (ps.zip us) → Vals vs us → sp vs H Q E → codeAny (model P w) A (.call (.ref f) args) (CR CX0 outer P w H s Q E) s
def Okg (x : Str) (k : Nat) (ps : List Str) (sp : Sp) : Prop := ∃ f fd, FnG P w K mg base k f fd ps sp ∧ mg x = some (.ref f) ∧ PySem.W.keepIn K (.ref f) = true ∧ Binds K fd ps []
end
section
variable {P : Program} {w : World} {K : PySem.W.Frag} {mg : Str → Option Value} {base : Heap}
theorem Okk.okg {x : Str} {k : Nat} {ps : List Str} {sp : Sp} (O : Okk P w K mg base x k ps sp) : Okg P w K mg base x k ps sp := by
  obtain ⟨f, fd, F, g, kp, b⟩ := O
  exact ⟨f, fd, ⟨F.len, fun A outer s H args us vs Q E _ => F.run A outer s H args us vs Q E⟩, g, kp, b⟩
theorem fng {x : Str} {st : Stmt} {N ps : List Str} {k : Nat} {sp : Sp} {f : Addr} {fd : FuncData} (F : FunD K x x (defArgs st) (defBody st) (defScope st) [] [] f fd) (S : FnScope N ps (defScope st)) (width : ∀ vs H Q E, sp vs H Q E → vs.length = ps.length)
    (hbody : ∀ (cdv : Value) (A : Around) (outer : List Env) (s : Shared) (H : Hp) (vs : List V) (Q : VK) (E : XK), A.guards = some [] → Room k (A.deeper (envOfC x (defScope st) s.heap.objs.size f cdv)) → sp vs H Q E →
      ∃ t, PSs (cxOf CX0 P w K mg base N x (defScope st) f cdv A outer s H E).nox (defBody st) t ∧ t { nx := fun _ H' => Q .non H', rt := Q } (start N vs) H) : FnG P w K mg base (k + 1) f fd ps sp := by
  obtain ⟨oc, od, dV, kV, doc, pm, an, cdv, ct, osl, rfl, lk, hcd, _, _⟩ := F.ex
  refine ⟨width, fun A outer s H args us vs Q E gd hr e0 hb r hsp => ?_⟩
  have lv := width _ _ _ _ hsp
  have old : ∀ c o, base.get? c = some o → s.heap.get? c = some o := fun c o e => (e0.bs c o e).1
  have inK : K.In s.heap := e0.mod.kin.keeps old
  have kinds : ∀ y ∈ ps.zip us, (defScope st).names.lookup y.1 = some .local ∨ ((defScope st).names.lookup y.1 = some .cell ∧ ((cellsFrom (s.heap.objs.size + 1) (defScope st).names []).lookup y.1).isSome = true) := by
    rintro ⟨n, v⟩ hy
    exact (S.par n (List.of_mem_zip hy).1).imp id fun q => ⟨q, PySem.W.cellsFrom_some _ _ _ (.inl q)⟩
  refine codeAny_call_function hr.depth (inK _ _ lk) rfl S.co S.gen rfl (PySem.W.codeRec_of inK hcd) (hb _ _ _ _ (wpAny_newFunctionEnv_cells S.kind kinds fun env he s1 new => ?_))
  subst he
  refine ⟨(e0.mod.nolimit.keeps old).keeps new.toInCall.keep, codeAny_func ?_⟩
  obtain ⟨t, ht, hq⟩ := hbody cdv A outer s H vs Q E gd (hr.deeper _) hsp
  refine wpAny_mono (ht.nox.run [] s1 (start N vs) H _ (inv_start S hr.hd e0 lv r new) hq) (fun fl s' hs => ?_) fun e s' hs => hs
  cases fl with
  | ret u =>
    obtain ⟨v, σ', H', J, rv, q⟩ := hs
    exact ⟨v, H', J.os, J.bare, J.base, J.hok, rv, q⟩
  | next =>
    obtain ⟨σ', H', J, q⟩ := hs
    exact ⟨V.non, H', J.os, J.bare, J.base, J.hok, rfl, q⟩
  | brk => exact False.elim hs.choose_spec.choose_spec.2
  | cont => exact False.elim hs.choose_spec.choose_spec.2
theorem okg {x : Str} {st : Stmt} {N ps : List Str} {k : Nat} {sp : Sp} (R : Row K mg x st ps) (S : FnScope N ps (defScope st)) (width : ∀ vs H Q E, sp vs H Q E → vs.length = ps.length)
    (hbody : ∀ (f : Addr) (cdv : Value) (A : Around) (outer : List Env) (s : Shared) (H : Hp) (vs : List V) (Q : VK) (E : XK), A.guards = some [] → Room k (A.deeper (envOfC x (defScope st) s.heap.objs.size f cdv)) → sp vs H Q E →
      ∃ t, PSs (cxOf CX0 P w K mg base N x (defScope st) f cdv A outer s H E).nox (defBody st) t ∧ t { nx := fun _ H' => Q .non H', rt := Q } (start N vs) H) : Okg P w K mg base x (k + 1) ps sp := by
  obtain ⟨f, fd, F, g, b⟩ := R
  exact ⟨f, fd, fng F S width (hbody f), g, F.kp, b⟩
end
section
variable {X : Cx}
theorem pe_clg {x : Str} {k j : Nat} {ps : List Str} {sp : Sp} {e : Expr} {es : List Expr} {t : TA} {p pos : Pos} (O : Okg X.prog X.w X.K X.mg X.base x k ps sp) (gd : X.A.guards = some []) (hr : Room j X.A) (ha : PA X (e :: es) t) (le : k ≤ j := by decide) (hg : Gl X x := by rfl)
    (hdb : (x == ("__debug__" : Str)) = false := by decide) (he : starEach (e :: es) X.env = (false, eval e X.env) :: starEach es X.env := by rfl) (hpl : (backTo pos (starEach es X.env)).any (·.1) = false := by rfl) : PE X (.Call (.Name x p) (e :: es) [] pos) (tCall sp [] E0 t) := by
  obtain ⟨f, fd, F, g, kp, b⟩ := O
  refine ⟨fun pins s σ H Q I h => ?_⟩
  refine wpAny_Call_Name_kw (ld_glob I hg g ?_ hdb)
  refine PySem.W.callWith_K (h₀ := X.base) I.ok.mod.kin kp (thn (ha.run pos pins s σ H _ I h) fun us s1 ⟨vs, H1, I1, r, q⟩ => ⟨I1.kIn, ?_⟩) he hpl
  have q : sp (vs ++ []) H1 Q E0 := q
  rw [List.append_nil] at q
  have hl : us.length = ps.length := by rw [← r.length]; exact F.width _ _ _ _ q
  have bt := b s1 us I1.kIn (by rw [List.append_nil]; exact hl)
  rw [List.append_nil] at bt
  refine wpAny_call (codeAny_mono (F.go X.A X.stack s1 H1 ⟨us, []⟩ us vs Q E0 gd (hr.mono le) I1.env0 bt r q) fun r s' hq => ?_)
  cases r with
  | error e => exact pass0 pins σ H1 s1 e s' I1 hq
  | ok fl =>
    cases fl with
    | ret u => exact I1.after hq
    | next => exact False.elim hq
    | brk => exact False.elim hq
    | cont => exact False.elim hq
end
end Kd

namespace Kd
open PySem PySem.Spec PyProof.Rows L2 Pk
/-! ### a list or a tuple -/
theorem sov {H H' : Hp} {p : Addr} {o : HO} (s : Same H H') (h : H p = none) : Same H (L2.upd H' p o) := fun b x e => by
  rw [upd_ne (ne_of_none e h)]
  exact s b x e
def SeqOr (H : Hp) (p : Addr) (xs : List V) : Prop := H p = some (.tup xs) ∨ H p = some (.lst xs)
theorem SeqOr.same {H H' : Hp} {p : Addr} {xs : List V} (h : SeqOr H p xs) (s : Same H H') : SeqOr H' p xs := h.imp (s p _) (s p _)
theorem SeqOr.intOr {H : Hp} {p : Addr} {xs : List V} (h : SeqOr H p xs) : IntOr H (.ref p) false := .inr ⟨p, xs, rfl, h, rfl⟩
theorem SeqOr.len {K : PySem.W.Frag} {H : Hp} {p : Addr} {xs : List V} (h : SeqOr H p xs) : SqL K H p xs ∨ SqT K H p xs := h.elim (fun h => .inr (tupAt h)) (fun h => .inl (lstAt h))
def iBoth (w1 w2 : TI) : TI := fun σ H R => w1 σ H R ∨ w2 σ H R
theorem pi_both {X : Cx} {tg iter : Expr} {w1 w2 : TI} (h1 : PI X tg iter w1) (h2 : PI X tg iter w2) : PI X tg iter (iBoth w1 w2) :=
  ⟨fun pins s σ H R I h => h.elim (h1.run pins s σ H R I) (h2.run pins s σ H R I)⟩
theorem pi_seq {X : Cx} {tg l : Expr} {tl : TE} (hl : PE X l tl) : PI X tg l (iBoth (iList X.K tl) (iTup X.K tl)) := pi_both (pi_list hl) (pi_tup hl)
/-- a list of what the turns give, from a tuple that is made -/
theorem lc_tupE {K : PySem.W.Frag} {tl : TE} {xs : List V} {g : TG} {tt : TT} {te : TE} {vs : List Nat} {σ : L2.St} {H1 : Hp} {Q : VK} (ht : ∀ R : V → Hp → Prop, (∀ a H2, Same H1 H2 → H2 a = some (.tup xs) → R (.ref a) H2) → tl σ H1 R)
    (Pv : Hp → Addr → Nat → Hp → Prop) (h0 : ∀ H2 D, Same H1 H2 → H2 D = none → Pv H2 D 0 (upd H2 D (.lst []))) (hl : ∀ H2 D i H, H2 D = none → Pv H2 D i H → Same H2 H)
    (hs : ∀ H2 D i x H, Same H1 H2 → H2 D = none → xs[i]? = some x → Pv H2 D i H → g x (wipe σ vs) H fun σ2 H2' => wipe σ2 vs = wipe σ vs ∧ tt σ2 H2' fun b H3 =>
      if b = true then te σ2 H3 fun y H4 => ∃ acc, H4 D = some (.lst acc) ∧ acc.length < sizeLine ∧ Pv H2 D (i + 1) (upd H4 D (.lst (acc ++ [y]))) else Pv H2 D (i + 1) H3)
    (hd : ∀ H2 D H, Same H1 H2 → H2 D = none → Pv H2 D xs.length H → Q (.ref D) H) : tLc (iTup K tl) g tt te vs σ H1 Q :=
  ht _ fun a H2 s ha => ⟨a, rfl, ⟨xs, tupAt ha⟩, fun D nD => lc_tup (K := K) (xs := xs) (Pv H2 D) (h0 H2 D s nD) (fun i H _ p => tupAt (hl H2 D i H nD p _ _ ha)) (fun i x H e p => hs H2 D i x H s nD e p) fun H p => hd H2 D H s nD p⟩
/-- a list of what the turns give, from a list or a tuple -/
theorem lc_seq {K : PySem.W.Frag} {tl : TE} {a : Addr} {xs : List V} {g : TG} {tt : TT} {te : TE} {vs : List Nat} {σ : L2.St} {H1 : Hp} {Q : VK} (ha : SeqOr H1 a xs)
    (ht : ∀ R : V → Hp → Prop, R (.ref a) H1 → tl σ H1 R)
    (Pv : Addr → Nat → Hp → Prop) (h0 : ∀ D, H1 D = none → Pv D 0 (upd H1 D (.lst []))) (hl : ∀ D i H, H1 D = none → Pv D i H → Same H1 H)
    (hs : ∀ D i x H, H1 D = none → xs[i]? = some x → Pv D i H → g x (wipe σ vs) H fun σ2 H2 => wipe σ2 vs = wipe σ vs ∧ tt σ2 H2 fun b H3 =>
      if b = true then te σ2 H3 fun y H4 => ∃ acc, H4 D = some (.lst acc) ∧ acc.length < sizeLine ∧ Pv D (i + 1) (upd H4 D (.lst (acc ++ [y]))) else Pv D (i + 1) H3)
    (hd : ∀ D H, H1 D = none → Pv D xs.length H → Q (.ref D) H) : tLc (iBoth (iList K tl) (iTup K tl)) g tt te vs σ H1 Q := by
  rcases ha with ha | ha
  · refine .inr (ht _ ⟨a, rfl, ⟨xs, tupAt ha⟩, fun D nD => ?_⟩)
    exact lc_tup (K := K) (xs := xs) (Pv D) (h0 D nD) (fun i H _ p => tupAt (hl D i H nD p _ _ ha)) (fun i x H e p => hs D i x H nD e p) fun H p => hd D H nD p
  · refine .inl (ht _ ⟨a, rfl, ⟨xs, lstAt ha⟩, fun D nD => ?_⟩)
    exact lc_list (K := K) (xs := xs) (Pv D) (h0 D nD) (fun i H _ p => lstAt (hl D i H nD p _ _ ha)) (fun i x H e p => hs D i x H nD e p) fun H p => hd D H nD p
/-! ### points -/
section
variable {P : Program} {w : World} {K : PySem.W.Frag} {mg : Str → Option Value} {base : Heap}
/-- the two numbers of a list or a tuple -/
def Pt2 (H : Hp) (v : V) (x y : Rat) : Prop := ∃ p a b, v = .ref p ∧ SeqOr H p [a, b] ∧ NumV H a x ∧ NumV H b y
/-- the two numbers of a tuple -/
def PtV (H : Hp) (v : V) (x y : Rat) : Prop := ∃ p a b, v = .ref p ∧ H p = some (.tup [a, b]) ∧ NumV H a x ∧ NumV H b y
theorem PtV.two {H : Hp} {v : V} {x y : Rat} (h : PtV H v x y) : Pt2 H v x y := by
  obtain ⟨p, a, b, e, h1, h2⟩ := h
  exact ⟨p, a, b, e, .inl h1, h2⟩
theorem PtV.same {H H' : Hp} {v : V} {x y : Rat} (h : PtV H v x y) (s : Same H H') : PtV H' v x y := by
  obtain ⟨p, a, b, e, h1, h2, h3⟩ := h
  exact ⟨p, a, b, e, s _ _ h1, h2.same s, h3.same s⟩
theorem Pt2.same {H H' : Hp} {v : V} {x y : Rat} (h : Pt2 H v x y) (s : Same H H') : Pt2 H' v x y := by
  obtain ⟨p, a, b, e, h1, h2, h3⟩ := h
  exact ⟨p, a, b, e, h1.same s, h2.same s, h3.same s⟩
def spIsPoint : Sp := fun vs H Q _ => ∃ v x y, vs = [v] ∧ Pt2 H v x y ∧ ∀ H', Same H H' → Q (.bl true) H'
theorem two_get {a b x : V} {i : Nat} (h : [a, b][i]? = some x) : (i = 0 ∧ x = a) ∨ (i = 1 ∧ x = b) := by
  match i, h with
  | 0, h => exact .inl ⟨rfl, (Option.some.inj h).symm⟩
  | 1, h => exact .inr ⟨rfl, (Option.some.inj h).symm⟩
  | n + 2, h => simp at h
theorem ok_is_point (R : Row K mg "is_point" (top 13) ["value"]) (gl : mg "len" = none) (ga : mg "all" = none) (O1 : Okk P w K mg base "is_list" 1 ["value"] spIsList) (O2 : Okk P w K mg base "is_number" 3 ["value"] spIsNumber) : Okk P w K mg base "is_point" 4 ["value"] spIsPoint := by
  refine okk R sc_is_point (fun vs H Q E h => ?_) (fun f cdv A outer s H vs Q E hr h => ?_)
  · obtain ⟨v, x, y, rfl, _⟩ := h
    rfl
  · obtain ⟨v, x, y, rfl, hv, q⟩ := h
    have nd := sc_is_point.nd
    refine ⟨_, pss_one (ps_ret (pe_and (pe_cl O1 hr (pa_cons (pv 0) pa_nil)) (pe_and (pe_cmpR op_eq (pe_callB call_len_seq (by rfl) gl PySem.boot_len (pa_cons (pv 0) pa_nil)) pe_int (nomark _))
      (pe_one (pe_callB (cr_all rfl) (by rfl) ga (by decide +kernel) (pa_cons (pe_lc (own := [("each", 1)]) (g := gName 1) (tt := tYes) rfl nd (pi_seq (pv 0)) (blkOk_by (N := ["value", "each"]) (sc := defScope (top 13)) (by decide +kernel))
        (fun _ _ _ _ _ => pg_name (i := 1) nd rfl (Or.inl rfl)) (fun _ _ _ _ _ => pts_nil) (fun _ _ _ _ _ => pe_cl O2 hr (pa_cons (pv 1) pa_nil))) pa_nil)))))), ?_⟩
    obtain ⟨p, a, b, rfl, hp, na, nb⟩ := hv
    refine ⟨_, rfl, _, true, rfl, hp.intOr, fun H1 s1 => ⟨true, rfl, iteT ?_⟩⟩
    have hp1 := hp.same s1
    refine ⟨_, rfl, p, _, rfl, hp1.len, rfl, true, rfl, iteT ?_⟩
    unfold tCB tCons
    refine lc_seq (xs := [a, b]) hp1 (fun R r => ⟨_, rfl, r⟩) (fun D i H' => Same H1 H' ∧ H' D = some (.lst ((List.replicate i true).map V.bl))) (fun D nD => ⟨same_upd nD, upd_same⟩) (fun D i H' nD p => p.1) (fun D i x H' nD e pv => ?_) (fun D H' nD pv => ?_)
    · have num : ∃ r, NumV H' x r := by
        rcases two_get e with ⟨_, rfl⟩ | ⟨_, rfl⟩
        · exact ⟨_, (na.same s1).same pv.1⟩
        · exact ⟨_, (nb.same s1).same pv.1⟩
      obtain ⟨r, hn⟩ := num
      refine ⟨rfl, ?_⟩
      refine ⟨_, rfl, _, r, rfl, hn, fun H3 s3 => ⟨_, s3 _ _ pv.2, ?_, sov (pv.1.trans s3) nD, ?_⟩⟩
      · have : i < 2 := by rcases two_get e with ⟨h, _⟩ | ⟨h, _⟩ <;> omega
        rw [List.length_map, List.length_replicate]
        exact Nat.lt_of_lt_of_le this s2
      · rw [upd_same, List.replicate_succ', List.map_append]
        rfl
    · exact ⟨D, [true, true], rfl, lstAt pv.2, q _ (s1.trans pv.1)⟩
/-! ### numbers as data -/
def numD (r : Rat) : PyData := if r.den = 1 then .int r.num else .tuple [.int r.num, .int (r.den : Int)]
theorem NumV.dp {H : Hp} {v : V} {r : Rat} (h : NumV H v r) : Dp K H v (numD r) := by
  unfold numD
  rcases h with ⟨d, rfl⟩ | ⟨d, p, rfl, hp⟩
  · rw [if_pos d]
    exact .int _
  · rw [if_neg d]
    exact .tup (tupAt hp) (.cons (.int _) (.cons (.int _) .nil))
theorem numD_shaped (r : Rat) : SeqAt.shaped (numD r) = true := by
  unfold numD
  split <;> rfl
theorem numD_zero (r : Rat) : PyData.eqv (numD r) (.int 0) = decide (r = 0) := by
  unfold numD
  split
  · rename_i d
    show (r.num == 0) = _
    rw [Bool.eq_iff_iff, beq_iff_eq, decide_eq_true_iff]
    exact Rat.num_eq_zero
  · rename_i d
    show false = _
    symm
    rw [decide_eq_false_iff_not]
    rintro rfl
    exact d rfl
/-! ### kept_row, need_number, need_point -/
def spKeptRow : Sp := fun vs H Q _ => ∃ v x y, vs = [v] ∧ Pt2 H v x y ∧ Out H Q fun v H' => PtV H' v x y
theorem ok_kept_row (R : Row K mg "kept_row" (top 16) ["row"]) (gt : mg "tuple" = none) (O : Okk P w K mg base "kept" 1 ["number"] spKept) : Okk P w K mg base "kept_row" 2 ["row"] spKeptRow := by
  refine okk R sc_kept_row (fun vs H Q E h => ?_) (fun f cdv A outer s H vs Q E hr h => ?_)
  · obtain ⟨v, x, y, rfl, _⟩ := h
    rfl
  · obtain ⟨v, x, y, rfl, hv, q⟩ := h
    have nd := sc_kept_row.nd
    refine ⟨_, pss_one (ps_ret (pe_callTy call_tuple_of (by rfl) gt (by decide +kernel) (pa_cons (pe_lc (own := [("each", 1)]) (g := gName 1) (tt := tYes) rfl nd (pi_seq (pv 0)) (blkOk_by (N := ["row", "each"]) (sc := defScope (top 16)) (by decide +kernel))
        (fun _ _ _ _ _ => pg_name (i := 1) nd rfl (Or.inl rfl)) (fun _ _ _ _ _ => pts_nil) (fun _ _ _ _ _ => pe_cl O hr (pa_cons (pv 1) pa_nil))) pa_nil))), ?_⟩
    obtain ⟨p, a, b, rfl, hp, na, nb⟩ := hv
    unfold tRet tCB tCons
    refine lc_seq (xs := [a, b]) hp (fun R r => ⟨_, rfl, r⟩) (fun D i H' => Same H H' ∧ H' D = some (.lst ([a, b].take i))) (fun D nD => ⟨same_upd nD, upd_same⟩) (fun D i H' nD p => p.1) (fun D i x H' nD e pv => ?_) (fun D H' nD pv => ?_)
    · have num : ∃ r, NumV H' x r := by
        rcases two_get e with ⟨_, rfl⟩ | ⟨_, rfl⟩
        · exact ⟨_, na.same pv.1⟩
        · exact ⟨_, nb.same pv.1⟩
      obtain ⟨r, hn⟩ := num
      refine ⟨rfl, ?_⟩
      refine ⟨_, rfl, _, r, rfl, hn, fun H3 s3 => ⟨_, s3 _ _ pv.2, ?_, sov (pv.1.trans s3) nD, ?_⟩⟩
      · have : i < 2 := by rcases two_get e with ⟨h, _⟩ | ⟨h, _⟩ <;> omega
        refine Nat.lt_of_lt_of_le ?_ s2
        rw [List.length_take]
        omega
      · rw [upd_same]
        rcases two_get e with ⟨rfl, rfl⟩ | ⟨rfl, rfl⟩ <;> rfl
    · refine ⟨D, _, rfl, .inl ⟨lstAt pv.2, fun l nl => ?_⟩⟩
      have s1 : Same H (upd H' l (.tup [a, b])) := Same.upd pv.1 nl
      exact q _ _ s1 ⟨l, a, b, rfl, upd_same, na.same s1, nb.same s1⟩
def spNeedNumber : Sp := fun vs H Q _ => ∃ v z r, vs = [v, z] ∧ NumV H v r ∧ Out H Q fun v H' => NumV H' v r
theorem ok_need_number (R : Row K mg "need_number" (top 17) ["value", "part"]) (O1 : Okk P w K mg base "is_number" 3 ["value"] spIsNumber) (O2 : Okk P w K mg base "kept" 1 ["number"] spKept) : Okk P w K mg base "need_number" 4 ["value", "part"] spNeedNumber := by
  refine okk R sc_need_number (fun vs H Q E h => ?_) (fun f cdv A outer s H vs Q E hr h => ?_)
  · obtain ⟨v, z, r, rfl, _⟩ := h
    rfl
  · obtain ⟨v, z, r, rfl, hv, q⟩ := h
    refine ⟨_, pss_cons (ps_if (pt_not (pt_val (pe_cl O1 hr (pa_cons (pv 0) pa_nil)))) pss_never pss_nil) (pss_one (ps_ret (pe_cl O2 hr (pa_cons (pv 0) pa_nil)))), ?_⟩
    exact ⟨_, rfl, _, r, rfl, hv, fun H1 s1 => ⟨true, rfl, iteF ⟨_, rfl, _, r, rfl, hv.same s1, fun H2 s2 => q _ _ (s1.trans s2) (hv.same (s1.trans s2))⟩⟩⟩
def spNeedPoint : Sp := fun vs H Q _ => ∃ v z x y, vs = [v, z] ∧ Pt2 H v x y ∧ Out H Q fun v H' => PtV H' v x y
theorem ok_need_point (R : Row K mg "need_point" (top 18) ["value", "part"]) (O1 : Okk P w K mg base "is_point" 4 ["value"] spIsPoint) (O2 : Okk P w K mg base "kept_row" 2 ["row"] spKeptRow) : Okk P w K mg base "need_point" 5 ["value", "part"] spNeedPoint := by
  refine okk R sc_need_point (fun vs H Q E h => ?_) (fun f cdv A outer s H vs Q E hr h => ?_)
  · obtain ⟨v, z, x, y, rfl, _⟩ := h
    rfl
  · obtain ⟨v, z, x, y, rfl, hv, q⟩ := h
    refine ⟨_, pss_cons (ps_if (pt_not (pt_val (pe_cl O1 hr (pa_cons (pv 0) pa_nil)))) pss_never pss_nil) (pss_one (ps_ret (pe_cl O2 hr (pa_cons (pv 0) pa_nil)))), ?_⟩
    exact ⟨_, rfl, _, x, y, rfl, hv, fun H1 s1 => ⟨true, rfl, iteF ⟨_, rfl, _, x, y, rfl, hv.same s1, q.go s1⟩⟩⟩
/-! ### turns -/
def Sm (r : Rat) : Prop := r.num.natAbs < 2 ^ 64 ∧ r.den < 2 ^ 64
theorem Sm.cn {r : Rat} (h : Sm r) (i : Int) : CMul i r.num := by
  have h1 := h.1
  exact .inr ⟨by omega, by omega⟩
theorem Sm.cd {r : Rat} (h : Sm r) (i : Int) : CMul i (r.den : Int) := by
  have h1 := h.2
  exact .inr ⟨by omega, by omega⟩
theorem turn_eq {x y : Rat} (h : x * x + y * y = 1) : x.num * x.num * (y.den : Int) * (y.den : Int) + y.num * y.num * (x.den : Int) * (x.den : Int) = (x.den : Int) * (x.den : Int) * (y.den : Int) * (y.den : Int) := by
  have hz : ∀ z : Rat, (z.num : Rat) = z * (z.den : Rat) := fun z => by
    have e : z = (z.num : Rat) / (z.den : Rat) := by
      have q := Rat.divInt_eq_div z.num (z.den : Int)
      rw [Rat.num_divInt_den] at q
      exact q
    have d0 : (z.den : Rat) ≠ 0 := fun q => z.den_nz (Rat.natCast_eq_zero_iff.mp q)
    have m : z * (z.den : Rat) = (z.num : Rat) / (z.den : Rat) * (z.den : Rat) := by rw [← e]
    rw [m, Rat.div_mul_cancel d0]
  have hx := hz x
  have hy := hz y
  have key : ((x.num * x.num * (y.den : Int) * (y.den : Int) + y.num * y.num * (x.den : Int) * (x.den : Int) : Int) : Rat) = (((x.den : Int) * (x.den : Int) * (y.den : Int) * (y.den : Int) : Int) : Rat) := by
    simp only [Rat.intCast_add, Rat.intCast_mul, Rat.intCast_natCast]
    rw [hx, hy]
    grind
  exact Rat.intCast_inj.mp key
end
end Kd

namespace Kd
open PySem PySem.Spec PyProof.Rows L2 Pk
section
variable {P : Program} {w : World} {K : PySem.W.Frag} {mg : Str → Option Value} {base : Heap}
/-! ### is_turn -/
def TurnP (x y : Rat) : Prop := Sm x ∧ Sm y ∧ x * x + y * y = 1
def HalfV (H : Hp) (v : V) (r : Rat) : Prop := ∃ p, v = .ref p ∧ H p = some (.tup [.int r.num, .int (r.den : Int)])
theorem HalfV.same {H H' : Hp} {v : V} {r : Rat} (h : HalfV H v r) (s : Same H H') : HalfV H' v r := by
  obtain ⟨p, e, h⟩ := h
  exact ⟨p, e, s _ _ h⟩
def spIsTurn : Sp := fun vs H Q _ => ∃ v x y, vs = [v] ∧ Pt2 H v x y ∧ TurnP x y ∧ ∀ H', Same H H' → Q (.bl true) H'
theorem ok_is_turn (R : Row K mg "is_turn" (top 14) ["value"]) (O1 : Okk P w K mg base "is_point" 4 ["value"] spIsPoint) (O2 : Okk P w K mg base "is_list" 1 ["value"] spIsList) : Okk P w K mg base "is_turn" 5 ["value"] spIsTurn := by
  refine okk R sc_is_turn (fun vs H Q E h => ?_) (fun f cdv A outer s H vs Q E hr h => ?_)
  · obtain ⟨v, x, y, rfl, _⟩ := h
    rfl
  · obtain ⟨v, x, y, rfl, hv, tp, q⟩ := h
    have nd := sc_is_turn.nd
    refine ⟨_, pss_cons (ps_if (pt_not (pt_val (pe_cl O1 hr (pa_cons (pv 0) pa_nil)))) pss_never pss_nil)
      (pss_cons (ps_asg (pe_lc (own := [("each", 5)]) (g := gName 5) (tt := tYes) rfl nd (pi_seq (pv 0)) (blkOk_by (N := ["value", "a", "b", "c", "d", "each"]) (sc := defScope (top 14)) (by decide +kernel))
        (fun _ _ _ _ _ => pg_name (i := 5) nd rfl (Or.inl rfl)) (fun _ _ _ _ _ => pts_nil) (fun _ _ _ _ _ => pe_ifExp (pt_val (pe_cl O2 hr (pa_cons (pv 5) pa_nil))) (pv 5) (pe_tup (pa_cons (pv 5) (pa_cons pe_int pa_nil)))))
        (pg_unl rfl (n := 2) (pgs_cons (pg_tup rfl (pgs_cons (pg_name (i := 1) nd rfl (Or.inl rfl)) (pgs_cons (pg_name (i := 2) nd rfl (Or.inl rfl)) pgs_nil))) (pgs_cons (pg_tup rfl (pgs_cons (pg_name (i := 3) nd rfl (Or.inl rfl)) (pgs_cons (pg_name (i := 4) nd rfl (Or.inl rfl)) pgs_nil))) pgs_nil)) (by rfl) (by rfl)))
      (pss_one (ps_ret (pe_cmpR op_eq (pe_op op_add (pe_op op_mul (pe_op op_mul (pe_op op_mul (pv 1) (pv 1)) (pv 4)) (pv 4)) (pe_op op_mul (pe_op op_mul (pe_op op_mul (pv 3) (pv 3)) (pv 2)) (pv 2)))
        (pe_op op_mul (pe_op op_mul (pe_op op_mul (pv 2) (pv 2)) (pv 4)) (pv 4)) (nomark _))))), ?_⟩
    refine ⟨_, rfl, _, x, y, rfl, hv, fun H1 s1 => ⟨true, rfl, iteF ?_⟩⟩
    obtain ⟨p, a, b, rfl, hp, na, nb⟩ := hv
    dsimp only [tNext, tSeq, tAsg]
    refine lc_seq (xs := [a, b]) (hp.same s1) (fun R r => ⟨_, rfl, r⟩) (fun D i H' => Same H1 H' ∧ ∃ zs, H' D = some (.lst zs) ∧ zs.length = i ∧ (∀ z, zs[0]? = some z → HalfV H' z x) ∧ (∀ z, zs[1]? = some z → HalfV H' z y))
      (fun D nD => ⟨same_upd nD, [], upd_same, rfl, fun z e => by simp at e, fun z e => by simp at e⟩) (fun D i H' nD p => p.1) (fun D i z H' nD e pv => ?_) (fun D H' nD pv => ?_)
    · obtain ⟨sm, zs, hD, hl, h0, h1⟩ := pv
      have num : ∃ r, NumV H' z r ∧ ((i = 0 ∧ r = x) ∨ (i = 1 ∧ r = y)) := by
        rcases two_get e with ⟨hi, rfl⟩ | ⟨hi, rfl⟩
        · exact ⟨_, na.same (s1.trans sm), .inl ⟨hi, rfl⟩⟩
        · exact ⟨_, nb.same (s1.trans sm), .inr ⟨hi, rfl⟩⟩
      obtain ⟨r, hn, hi⟩ := num
      have i2 : i < 2 := by omega
      refine ⟨rfl, ?_⟩
      -- what is put behind
      have fin : ∀ (H4 : Hp) (u : V), Same H' H4 → HalfV H4 u r → ∃ acc, H4 D = some (.lst acc) ∧ acc.length < sizeLine ∧ Same H1 (upd H4 D (.lst (acc ++ [u]))) ∧ ∃ zs, upd H4 D (.lst (acc ++ [u])) D = some (.lst zs) ∧ zs.length = i + 1 ∧
          (∀ z, zs[0]? = some z → HalfV (upd H4 D (.lst (acc ++ [u]))) z x) ∧ (∀ z, zs[1]? = some z → HalfV (upd H4 D (.lst (acc ++ [u]))) z y) := fun H4 u s4 hu => by
        have stay : ∀ {z : V} {q : Rat}, HalfV H4 z q → HalfV (upd H4 D (.lst (zs ++ [u]))) z q := fun {z q} h => by
          obtain ⟨c, e, hc⟩ := h
          refine ⟨c, e, ?_⟩
          rw [upd_ne (ne_of hc (s4 _ _ hD) (fun z => nomatch z))]
          exact hc
        refine ⟨zs, s4 _ _ hD, Nat.lt_of_lt_of_le (by omega) s2, sov (sm.trans s4) nD, zs ++ [u], upd_same, by rw [List.length_append, hl]; rfl, fun z ez => ?_, fun z ez => ?_⟩
        · rcases hi with ⟨rfl, rfl⟩ | ⟨rfl, rfl⟩
          · obtain rfl := List.eq_nil_of_length_eq_zero hl
            obtain rfl : u = z := Option.some.inj ez
            exact stay hu
          · rw [List.getElem?_append_left (by omega)] at ez
            exact stay ((h0 z ez).same s4)
        · rcases hi with ⟨rfl, rfl⟩ | ⟨rfl, rfl⟩
          · obtain rfl := List.eq_nil_of_length_eq_zero hl
            simp at ez
          · rw [List.getElem?_append_right (by omega), hl] at ez
            obtain rfl : u = z := Option.some.inj ez
            exact stay hu
      refine ⟨_, rfl, z, !decide (r.den = 1), rfl, by rw [Bool.not_not]; exact hn.intOr, fun H3 s3 => ⟨_, rfl, ?_⟩⟩
      rcases hn.same s3 with ⟨d, rfl⟩ | ⟨d, c, rfl, hc⟩
      · rw [decide_eq_true d]
        refine iteF ⟨_, rfl, s2, fun l nl => fin _ _ (Same.upd s3 nl) ⟨l, rfl, ?_⟩⟩
        rw [upd_same, d]
        rfl
      · rw [decide_eq_false d]
        exact iteT ⟨_, rfl, fin _ _ s3 ⟨c, rfl, hc⟩⟩
    · obtain ⟨sm, zs, hD, hl, h0, h1⟩ := pv
      match zs, hl, h0, h1, hD with
      | [u1, u2], _, h0, h1, hD =>
        obtain ⟨c1, rfl, e1⟩ := h0 u1 rfl
        obtain ⟨c2, rfl, e2⟩ := h1 u2 rfl
        have mn := fun (i : Int) => tp.1.cn i
        refine ⟨D, _, rfl, lstAt hD, rfl, _, _, rfl, c1, _, rfl, tupAt e1, rfl, _, _, rfl, _, _, rfl, rfl, _, _, rfl, c2, _, rfl, tupAt e2, rfl, _, _, rfl, _, _, rfl, rfl, rfl, ?_⟩
        refine ⟨_, rfl, _, rfl, _, _, rfl, rfl, tp.1.cn _, _, rfl, _, _, rfl, rfl, tp.2.1.cd _, _, rfl, _, _, rfl, rfl, tp.2.1.cd _, ?_⟩
        refine ⟨_, rfl, _, rfl, _, _, rfl, rfl, tp.2.1.cn _, _, rfl, _, _, rfl, rfl, tp.1.cd _, _, rfl, _, _, rfl, rfl, tp.1.cd _, ?_⟩
        refine ⟨_, _, rfl, rfl, ?_⟩
        refine ⟨_, rfl, _, rfl, _, _, rfl, rfl, tp.1.cd _, _, rfl, _, _, rfl, rfl, tp.2.1.cd _, _, rfl, _, _, rfl, rfl, tp.2.1.cd _, ?_⟩
        refine ⟨rfl, ?_⟩
        rw [decide_eq_true (congrArg V.int (turn_eq tp.2.2))]
        exact q _ (s1.trans sm)
def spNeedTurn : Sp := fun vs H Q _ => ∃ v z x y, vs = [v, z] ∧ Pt2 H v x y ∧ TurnP x y ∧ Out H Q fun v H' => PtV H' v x y
theorem ok_need_turn (R : Row K mg "need_turn" (top 19) ["value", "part"]) (O1 : Okk P w K mg base "is_turn" 5 ["value"] spIsTurn) (O2 : Okk P w K mg base "kept_row" 2 ["row"] spKeptRow) : Okk P w K mg base "need_turn" 6 ["value", "part"] spNeedTurn := by
  refine okk R sc_need_turn (fun vs H Q E h => ?_) (fun f cdv A outer s H vs Q E hr h => ?_)
  · obtain ⟨v, z, x, y, rfl, _⟩ := h
    rfl
  · obtain ⟨v, z, x, y, rfl, hv, tp, q⟩ := h
    refine ⟨_, pss_cons (ps_if (pt_not (pt_val (pe_cl O1 hr (pa_cons (pv 0) pa_nil)))) pss_never pss_nil) (pss_one (ps_ret (pe_cl O2 hr (pa_cons (pv 0) pa_nil)))), ?_⟩
    exact ⟨_, rfl, _, x, y, rfl, hv, tp, fun H1 s1 => ⟨true, rfl, iteF ⟨_, rfl, _, x, y, rfl, hv.same s1, q.go s1⟩⟩⟩
/-! ### is_term -/
def TermV (H : Hp) (v : V) (t : Pk.Tm) : Prop := ∃ p n, v = .ref p ∧ H p = some (.tup [.int (t.1 : Int), .int (t.2.1 : Int), n]) ∧ NumV H n t.2.2
theorem TermV.same {H H' : Hp} {v : V} {t : Pk.Tm} (h : TermV H v t) (s : Same H H') : TermV H' v t := by
  obtain ⟨p, n, e, h1, h2⟩ := h
  exact ⟨p, n, e, s _ _ h1, h2.same s⟩
def spIsTerm : Sp := fun vs H Q _ => ∃ v t, vs = [v] ∧ TermV H v t ∧ t.1 + t.2.1 ≤ 6 ∧ t.2.2 ≠ 0 ∧ ∀ H', Same H H' → Q (.bl true) H'
theorem ok_is_term (R : Row K mg "is_term" (top 30) ["value"]) (gl : mg "len" = none) (ga : mg "all" = none) (gm : ∃ u, mg "MOST_DEGREE" = some u ∧ RelV (.int 6) u) (O1 : Okk P w K mg base "is_list" 1 ["value"] spIsList)
    (O2 : Okk P w K mg base "is_number" 3 ["value"] spIsNumber) (O3 : Okk P w K mg base "is_within" 2 ["value", "least", "most"] spIsWithin) : Okk P w K mg base "is_term" 4 ["value"] spIsTerm := by
  refine okk R sc_is_term (fun vs H Q E h => ?_) (fun f cdv A outer s H vs Q E hr h => ?_)
  · obtain ⟨v, t, rfl, _⟩ := h
    rfl
  · obtain ⟨v, t, rfl, hv, lo, nz, q⟩ := h
    obtain ⟨u, gu, ru⟩ := gm
    have nd := sc_is_term.nd
    refine ⟨_, pss_cons (ps_if (PW.pt (pw_or (pt_not (pt_val (pe_cl O1 hr (pa_cons (pv 0) pa_nil)))) (pw_or (pt_cmpR op_ne (pe_callB call_len_seq (by rfl) gl PySem.boot_len (pa_cons (pv 0) pa_nil)) pe_int (nomark _))
        (pw_or (pt_not (pt_val (pe_cl O2 hr (pa_cons (pe_ix ix_tup (pv 0) pe_int (fun _ _ => rfl)) pa_nil)))) (pw_or1 (pt_cmpR (op_eqD hr.units) (pe_ix ix_tup (pv 0) pe_int (fun _ _ => rfl)) pe_int (nomark _))))))) (pss_one (ps_ret pe_bl)) pss_nil)
      (pss_one (ps_ret (pe_and (pe_callB (cr_all rfl) (by rfl) ga (by decide +kernel) (pa_cons (pe_lc (own := [("power", 1)]) (g := gName 1) (tt := tYes) rfl nd (pi_tup (pe_slice sl_tup (pv 0) po_none (po_some pe_int))) (blkOk_by (N := ["value", "power"]) (sc := defScope (top 30)) (by decide +kernel))
          (fun _ _ _ _ _ => pg_name (i := 1) nd rfl (Or.inl rfl)) (fun _ _ _ _ _ => pts_nil) (fun _ _ _ _ _ => pe_cl O3 hr (pa_cons (pv 1) (pa_cons pe_int (pa_cons (pe_glob (by rfl) gu ru) pa_nil))))) pa_nil))
        (pe_one (pe_cmpR op_le (pe_op op_add (pe_ix ix_tup (pv 0) pe_int (fun _ _ => rfl)) (pe_ix ix_tup (pv 0) pe_int (fun _ _ => rfl))) (pe_glob (by rfl) gu ru) (nomark _)))))), ?_⟩
    obtain ⟨i, j, r⟩ := t
    obtain ⟨p, n, rfl, hp, hn⟩ := hv
    refine ⟨_, rfl, _, true, rfl, .inr ⟨p, _, rfl, .inl hp, rfl⟩, fun H1 s1 => ⟨true, rfl, iteF ?_⟩⟩
    have h1 := s1 _ _ hp
    refine ⟨_, rfl, p, _, rfl, .inr (tupAt h1), rfl, _, rfl, iteNS rfl ?_⟩
    refine ⟨_, rfl, p, _, 2, n, rfl, rfl, tupAt h1, rfl, _, r, rfl, hn.same s1, fun H2 s2' => ⟨true, rfl, iteF ?_⟩⟩
    have h2 := s2' _ _ h1
    refine ⟨_, rfl, p, _, 2, n, rfl, rfl, tupAt h2, rfl, _, _, (hn.same (s1.trans s2')).dp, .int 0, numD_shaped r, rfl, _, rfl, ?_⟩
    rw [numD_zero, decide_eq_false nz]
    refine iteF ?_
    dsimp only [tNext, tSeq, tRet, tAndV, tCB, tCons]
    refine lc_tupE (xs := [.int (i : Int), .int (j : Int)]) (fun R go => ⟨_, rfl, 2, rfl, p, _, rfl, tupAt h2, (fun z => absurd z.2 (fun y : (2 : Nat) = 3 => by omega)), fun a na => go a _ (same_upd na) upd_same⟩)
      (fun H3 D k H' => Same H3 H' ∧ H' D = some (.lst ((List.replicate k true).map V.bl))) (fun H3 D s3 nD => ⟨same_upd nD, upd_same⟩) (fun H3 D k H' nD p => p.1) (fun H3 D k x H' s3 nD e pv => ?_) (fun H3 D H' s3 nD pv => ?_)
    · have num : ∃ z : Nat, x = .int (z : Int) ∧ z ≤ 6 := by
        dsimp only at lo
        rcases two_get e with ⟨_, rfl⟩ | ⟨_, rfl⟩
        · exact ⟨i, rfl, by omega⟩
        · exact ⟨j, rfl, by omega⟩
      obtain ⟨z, rfl, z6⟩ := num
      refine ⟨rfl, ?_⟩
      refine ⟨_, rfl, z, some 0, some 6, rfl, _, pv.2, ?_, sov pv.1 nD, ?_⟩
      · have : k < 2 := by rcases two_get e with ⟨h, _⟩ | ⟨h, _⟩ <;> omega
        rw [List.length_map, List.length_replicate]
        exact Nat.lt_of_lt_of_le this s2
      · have c1 : loB (z : Int) (some 0) = true := (decide_eq_true (show (0 : Int) ≤ (z : Int) by omega) : _)
        have c2 : hiB (z : Int) (some 6) = true := (decide_eq_true (show (z : Int) ≤ 6 by omega) : _)
        rw [upd_same, c1, c2, List.replicate_succ', List.map_append]
        rfl
    · refine ⟨D, [true, true], rfl, lstAt pv.2, _, rfl, iteT ?_⟩
      have h4 := pv.1 _ _ (s3 _ _ h2)
      refine ⟨_, rfl, p, _, 0, _, rfl, rfl, tupAt h4, rfl, _, rfl, p, _, 1, _, rfl, rfl, tupAt h4, rfl, _, _, rfl, rfl, _, _, rfl, rfl, ?_⟩
      dsimp only
      rw [decide_eq_true (show ((i : Int) + (j : Int)) ≤ 6 by dsimp only at lo; omega)]
      exact q _ (((s1.trans s2').trans s3).trans pv.1)
end
end Kd

namespace Kd
open PySem PySem.Spec PyProof.Rows L2 Pk
section
variable {X : Cx}
/-! ### repr of data, where no other repr is under way -/
theorem call_reprD (hg : X.A.guards = some []) (hu : X.A.units + 64 < cLine) : CallR X (.builtin "repr") (fun xs H Q => ∃ v d, xs = [v] ∧ ((∃ i, v = .int i) ∨ ∃ a, v = .ref a) ∧ Dp X.K H v d ∧ d.showable = true ∧ d.hasDict = false ∧ d.depth ≤ 20 ∧ d.shown.length ≤ sizeLine ∧ Q (.str d.shown) H) := by
  intro pins s σ H xs us Q I r h
  obtain ⟨v, d, rfl, kind, hd, h1, h2, h3, h4, q⟩ := h
  obtain ⟨u, rfl, rx⟩ := vals1 r
  obtain ⟨as, rd⟩ := Dp.reads I d v u hd rx
  have by_ref : ∀ a, u = .ref a → wpAny (model X.prog X.w) X.A (call (.builtin "repr") [u]) (EP X pins σ Q) X.xe s := fun a e => by
    subst e
    exact repr_of_reads' (prog := X.prog) (w := X.w) rd h1 (PyData.noDict_hsm h2) hg (by omega) (fun _ _ z => z) (fun h' w' tk k => ⟨.str d.shown, H, I.kept k, ⟨_, rfl⟩, q⟩) h4
  rcases kind with ⟨i, rfl⟩ | ⟨a, rfl⟩
  · obtain ⟨t, rfl⟩ := rx
    cases hd
    exact PySem.P.repr_of_int (of_decide_eq_true (by simpa [PyData.showable] using h1)) ⟨.str _, H, I.tok _, ⟨_, rfl⟩, by simpa [PyData.shown] using q⟩
  · exact by_ref a rx
/-! ### a call by keywords alone -/
def tCallW (m : Nat) (sp : Sp) (gV : List V → List V → List V) (E : XK) (tk : TA) : TE := fun σ H Q => tk σ H fun zs H2 => zs.length = m ∧ sp (gV [] zs) H2 Q E
theorem pe_callW {CX : CXT} {k : Nat} {f : Addr} {fd : FuncData} {ps ks : List Str} {sp : Sp} {E : XK} {x : Str} {p pos : Pos} {kws : List Keyword} {tk : TA} {g : List Value → List Value → List Value} {gV : List V → List V → List V}
    (F : FnOk X.prog X.w X.K X.mg X.base CX k f fd ps sp) (hr : Room k X.A) (hg : Gl X x) (hm : X.mg x = some (.ref f)) (hk : PySem.W.keepIn X.K (.ref f) = true) (hb : KBn X.K fd ps 0 ks g gV) (hx : Passes CX X E) (hkw : PK X kws tk)
    (hall : (backToKw pos (keywordEach kws X.env)).all (·.1.isSome) = true := by rfl) (hks : (backToKw pos (keywordEach kws X.env)).filterMap (·.1) = ks := by rfl) (hdb : (x == ("__debug__" : Str)) = false := by decide)
    (hpl : ((backTo pos (starEach [] X.env)).any (·.1) || (backToKw pos (keywordEach kws X.env)).any (·.1.isNone)) = false := by rfl) : PE X (.Call (.Name x p) [] kws pos) (tCallW ks.length sp gV E tk) :=
  ⟨fun pins s σ H Q I h => wpAny_Call_Name_kw (ld_glob I hg hm (PySem.W.callWith_KW0 (h₀ := X.base) I.ok.mod.kin hk hall
    (thn (hkw.run pos pins s σ H _ I h) fun ws s2 ⟨zs, H2, I2, rz, l2, q2⟩ => ⟨I2.kIn, by rw [hks]; exact run_fnN (us := []) (vs := []) F hr hb hx I2 .nil rz rfl l2 q2⟩) hpl) hdb)⟩
end
end Kd

namespace Kd
open PySem PySem.Spec PyProof.Rows L2 Pk
section
variable {X : Cx}
/-! ### max(xs, default=d) of ints -/
def top1 : List Int → Int → Int
  | [], d => d
  | n :: r, _ => r.foldl max n
theorem readsInts {h : Heap} : ∀ {us : List Value} {ns : List Int}, IntsAre us ns → ReadsAll h us (ns.map .int) []
  | _, _, .nil => .nil
  | _, _, .cons i t r => .cons (.int i t) (readsInts r)
def rMaxDef (K : PySem.W.Frag) : List V → List V → Hp → VK → Prop := fun xs zs H Q => ∃ (a : Addr) (ns : List Int) (d : Int), xs = [.ref a] ∧ zs = [.int d] ∧ SqL K H a (ns.map V.int) ∧ Q (.int (top1 ns d)) H
theorem cr_maxDef (hc : X.calm = true) (hu : X.A.units + 64 < cLine) : CallRK X (.builtin "max") [Str.ofString "default"] (rMaxDef X.K) := by
  intro pins s σ H xs zs us ws Q I r rz h
  obtain ⟨a, ns, d, rfl, rfl, hs, q⟩ := h
  obtain ⟨w1, rfl, t, rfl⟩ := vals1 rz
  obtain rfl := Vals.ref1 r
  obtain ⟨its, rv, pl, hz⟩ := I.list hs
  have hi : IntsAre its ns := rv.ints
  have dep : PyData.depthAll (ns.map PyData.int) ≤ 1 := by
    clear hs rv hi q hz
    induction ns with
    | nil => decide
    | cons n r ih =>
      have ih' : PyData.depthAll (List.map PyData.int r) ≤ 1 := ih
      show max (PyData.int n).depth (PyData.depthAll (r.map PyData.int)) ≤ 1
      have : (PyData.int n).depth ≤ 1 := by simp [PyData.depth]
      omega
  refine PySem.W.max_list_default (I.ok.hd hc) pl.isList (xs := ns.map .int) (by simpa using readsInts hi) ⟨fun x hx y hy => ?_, fun x hx => ?_⟩ (by omega) (fun e h' tk k => ?_) (fun y ys i v h' tk bs e _ rd k => ?_)
  · obtain ⟨m, _, rfl⟩ := List.mem_map.mp hx
    obtain ⟨n, _, rfl⟩ := List.mem_map.mp hy
    simp [PySem.W.alike]
  · obtain ⟨m, _, rfl⟩ := List.mem_map.mp hx
    exact fun z => nomatch z
  · cases ns with
    | nil => exact ⟨.int d, H, I.kept k, ⟨t, rfl⟩, q⟩
    | cons n r => cases e
  · cases ns with
    | nil => cases e
    | cons n r =>
      rw [List.map_cons] at e
      injection e with e1 e2
      subst e1 e2
      rw [PySem.W.maxD_ints] at rd
      cases rd with
      | int _ t' => exact ⟨.int _, H, I.kept k, ⟨t', rfl⟩, q⟩
/-! ### sorted(d) of a dict whose keys are pairs of ints -/
/-- the keys' own tuples, in the dict's order -/
theorem keys_vals {prog : Program} {w : World} {ks : List (List L2.Key × Addr × Value)} {es : Array DictEntry} {acc : Array Value} (he : es.toList = ks.map (entryOfKey (tupleKind (mixKind prog w))))
    (it : PySem.ItemsOf (fun i v => ∃ en : DictEntry, es[i]? = some en ∧ v = en.key) acc es.size) : acc.toList = ks.map fun x => Value.ref x.2.1 := by
  have l1 : es.size = ks.length := size_of_entries he
  refine List.ext_getElem? fun j => ?_
  rw [List.getElem?_map]
  have hl : acc.toList.length = ks.length := by rw [Array.length_toList, it.1]; exact l1
  cases hb : ks[j]? with
  | none => rw [List.getElem?_eq_none (by have := List.getElem?_eq_none_iff.mp hb; omega)]; rfl
  | some b =>
    have lt : j < ks.length := (List.getElem?_eq_some_iff.mp hb).1
    have hj : acc.toList[j]? = some acc.toList[j] := List.getElem?_eq_getElem (by omega)
    obtain ⟨en, hen, hv⟩ := it.2 j _ (by rw [← Array.getElem?_toList]; exact hj)
    have qe := entry_at he j
    rw [hen, hb] at qe
    have e2 : en = entryOfKey (tupleKind (mixKind prog w)) b := Option.some.inj qe
    rw [hj, hv, e2]
    rfl
def rSortDT (d : Nat) (B : Int) : List V → Hp → VK → Prop := fun vs H Q => ∃ (a : Addr) (kvs : List (List L2.Key × V)), vs = [.ref a] ∧ Rd H a (.dT kvs) ∧ kvs.length < 64 ∧ (∀ kv ∈ kvs, ∃ ns : List Int, kv.1 = ns.map Sum.inl ∧ ns.length = d ∧ TS.Bd B ns) ∧
  ∀ (bs ys : List Addr) (p : Addr), IsKeys H kvs bs → ys.Perm bs → (ys.Pairwise fun x y => ∀ n m : List Int, H x = some (.tup (n.map V.int)) → H y = some (.tup (m.map V.int)) → TS.code B n ≤ TS.code B m) → H p = none → Q (.ref p) (upd H p (.lst (ys.map V.ref)))
def rf : Value → Addr
  | .ref a => a
  | _ => 0
/-- sorted of such a dict, raw -/
theorem cr_sortDT (hc : X.calm = true) {d : Nat} {B : Int} (hd1 : 1 ≤ d) : CallR X (.builtin "sorted") (rSortDT d B) := by
  intro pins s σ H vs us Q I r h
  obtain ⟨a, kvs, rfl, hd, h64, hk, q⟩ := h
  rw [Vals.ref1 r]
  obtain ⟨z, hs, ks, pr, o, es, ep, ho, hx, hdt, he, hn⟩ := (show ObjOk X.prog X.w H s.heap a (.dT kvs) from hd.ok I.hok)
  have l1 : es.size = ks.length := size_of_entries he
  have l2 : kvs.length = ks.length := Paired.length pr
  refine Calls.call_function_entry PyProof.Rows.kind_sorted PyProof.Rows.plain_sorted PyProof.Rows.entry_sorted (PyProof.Rows.args_sorted1 _) ?_
  unfold Builtin.«sorted»
  refine wpAny_bind (m := checkCount "sorted" 1 1 _) (wpAny_pure ?_)
  refine wpAny_bind (PySem.W.kdu_collect (A := X.A.in1) (kdl_raw hs hx hdt) (I.ok.hd hc) ho (by omega) fun h' tk acc kp it => ?_)
  have ea := keys_vals he it
  have I1 : Inv X pins σ H { s with heap := h', toks := tk } := I.kept kp
  -- the keys, ints
  have kints : ∀ v ∈ acc.toList, ∃ b ns, v = Value.ref b ∧ b ∈ ks.map (fun x => x.2.1) ∧ H b = some (.tup (ns.map V.int)) ∧ ns.length = d ∧ TS.Bd B ns := fun v hv => by
    rw [ea] at hv
    obtain ⟨x, hx, rfl⟩ := List.mem_map.mp hv
    obtain ⟨i, hi, ei⟩ := List.mem_iff_getElem.mp hx
    have g2 : ks[i]? = some x := by rw [List.getElem?_eq_getElem hi, ei]
    have g1 : kvs[i]? = some kvs[i] := List.getElem?_eq_getElem (by omega)
    obtain ⟨y, gy, e1, e2, _⟩ := paired_get pr g1
    rw [g2] at gy
    obtain rfl := Option.some.inj gy
    obtain ⟨ns, en, h1, h2⟩ := hk _ (List.getElem_mem (by omega : i < kvs.length))
    refine ⟨x.2.1, ns, rfl, List.mem_map.mpr ⟨x, hx, rfl⟩, ?_, h1, h2⟩
    rw [e2, en, List.map_map]
    rfl
  have alen : acc.toList.length = kvs.length := by rw [ea, List.length_map, l2]
  refine wpAny_bind (wpAny_newList ?_ (by rw [alen, sizeLine_eq]; omega))
  have hoL : (h'.push (seqObj "list" acc.toList.toArray 0)).get? h'.objs.size = some (seqObj "list" acc.toList.toArray 0) := Heap.get?_push_size _ rfl
  have raw : ∀ (b : Addr) (ns : List Int), H b = some (.tup (ns.map V.int)) → TS.TupInts (h'.push (seqObj "list" acc.toList.toArray 0)) (.ref b) ns := fun b ns e =>
    (tupI_raw I1 (tupAt e)).keeps fun c oc ec _ => Heap.get?_push_of_some _ ec
  show wpAny _ _ _ _ _ { s with heap := h'.push (seqObj "list" acc.toList.toArray 0), toks := tk }
  refine wpAny_bind (wpAny_holding (wpAny_call_entry PyProof.Rows.slot_list_sort ⟨_, hoL, rfl⟩ PyProof.Rows.entry_list_sort
    (TS.sort_tups (s := { s with heap := h'.push (seqObj "list" acc.toList.toArray 0), toks := tk }) (d := d) (B := B) hoL (by rw [alen]; exact h64) hd1 (fun v hv => ?_)
      (fun v => TS.code B (TS.intsOf (h'.push (seqObj "list" acc.toList.toArray 0)) v)) (fun v hv ns t => by show TS.code B _ = _; rw [t.ints]) fun out a1 a2 => ⟨_, rfl, ?_⟩) (PyProof.Rows.args_list_sort _)))
  · obtain ⟨b, ns, rfl, _, eb, h1, h2⟩ := kints v hv
    exact ⟨ns, raw b ns eb, h1, h2⟩
  · obtain ⟨ep', he'⟩ := PyProof.Rows.sortedHeap_at (vs := acc.toList) (out := out) hoL
    have h3 : ∀ u ∈ out.toList, u = Value.ref (rf u) := fun u hu => by
      obtain ⟨b, _, rfl, _⟩ := kints u (a1.mem_iff.mp hu)
      rfl
    have ey : out.toList = (out.toList.map rf).map Value.ref := by
      rw [List.map_map]
      conv => lhs; rw [← List.map_id out.toList]
      exact List.map_congr_left fun u hu => h3 u hu
    have hp : (out.toList.map rf).Perm (ks.map fun x => x.2.1) := by
      have e := a1.map rf
      rw [ea, List.map_map] at e
      exact e
    have hz : ((out.toList.map rf).map V.ref).length ≤ sizeLine := by
      rw [List.length_map, hp.length_eq, List.length_map, ← l2]
      exact z
    have rv : Vals ((out.toList.map rf).map V.ref) out.toList := by
      conv => rhs; rw [ey]
      exact vals_refs _
    have I2 : Inv X pins σ (upd H h'.objs.size (.lst ((out.toList.map rf).map V.ref))) { s with heap := sortedHeap (h'.push (seqObj "list" acc.toList.toArray 0)) h'.objs.size acc.toList out, toks := tk } :=
      I1.laid (t' := tk) (fun b u e => by
        have hb : b < h'.objs.size := Heap.lt_size e
        rw [PyProof.Rows.sortedHeap_old (Nat.ne_of_lt hb) (by rw [size_push']; exact Nat.lt_succ_of_lt hb)]
        exact Heap.get?_push_of_some _ e) (Nat.le_refl _) ⟨hz, out.toList, ep', rv, he'⟩
    refine wpAny_pure ⟨_, rfl, .ref h'.objs.size, _, I2, rfl, q _ _ _ (isKeys_of pr) hp ?_ (I1.hok.fresh (Nat.le_refl _))⟩
    rw [List.pairwise_map]
    refine List.Pairwise.imp_of_mem (fun {u v} hu hv huv n m en em => ?_) a2
    have i1 := (raw (rf u) n en).ints
    have i2 := (raw (rf v) m em).ints
    rw [← h3 u hu] at i1
    rw [← h3 v hv] at i2
    rw [← i1, ← i2]
    exact huv
end
end Kd

namespace Kd
open PySem PySem.Spec PyProof.Rows L2 Pk
/-! ### entries of a dict whose keys are tuples, put one behind the other -/
abbrev Ent := List L2.Key × Addr × V
def mergeT (acc : List (List L2.Key × V)) (kts : List Ent) : List (List L2.Key × V) := kts.foldl (fun acc t => putK acc t.1 t.2.2) acc
theorem mergeT_nil (acc : List (List L2.Key × V)) : mergeT acc [] = acc := rfl
theorem mergeT_cons (acc : List (List L2.Key × V)) (t : Ent) (r : List Ent) : mergeT acc (t :: r) = mergeT (putK acc t.1 t.2.2) r := rfl
theorem mergeT_len : ∀ (kts : List Ent) (acc : List (List L2.Key × V)), (mergeT acc kts).length ≤ acc.length + kts.length
  | [], acc => Nat.le_refl _
  | t :: r, acc => by
    have h1 := mergeT_len r (putK acc t.1 t.2.2)
    have h2 := length_putK acc t.1 t.2.2
    rw [mergeT_cons, List.length_cons]
    omega
abbrev EntR : List Ent → List (List L2.Key × Addr × Value) → Prop := Paired fun t p => t.1 = p.1 ∧ t.2.1 = p.2.1 ∧ RelV t.2.2 p.2.2
theorem ktAll {H : Hp} : ∀ {kts : List Ent} {ps : List (List L2.Key × Addr × Value)} {acc : List (List L2.Key × V)} {xs : List (List L2.Key × Addr × Value)}, EntR kts ps → (∀ t ∈ kts, H t.2.1 = some (.tup (t.1.map kV))) → KT H acc xs → KT H (mergeT acc kts) (storedAllH xs ps)
  | [], _, _, _, .nil, _, r => r
  | t :: kts, p :: ps, acc, xs, .cons h q, ht, r => by
    obtain ⟨e1, e2, rv⟩ := h
    have key := ht t List.mem_cons_self
    have step : KT H (putK acc t.1 t.2.2) (storedH xs p.1 p.2.1 p.2.2) := by
      rw [← e1, ← e2]
      exact r.put t.1 key rv
    exact ktAll (kts := kts) (ps := ps) q (fun u hu => ht u (List.mem_cons_of_mem _ hu)) step
theorem entR_len {kts : List Ent} {ps : List (List L2.Key × Addr × Value)} (r : EntR kts ps) : kts.length = ps.length := Paired.length r
section
variable {X : Cx}
/-! ### {(..): v, ..} -/
theorem carriesT {prog : Program} {w : World} {H : Hp} {h : Heap} (ok : HOk prog w H h) : ∀ {kts : List Ent} {ws : List (Value × Value)}, VV (kts.map fun t => (.ref t.2.1, t.2.2)) ws → (∀ t ∈ kts, H t.2.1 = some (.tup (t.1.map kV))) →
    ∃ ps, CarriesH (tupleKind (mixKind prog w)) h ws ps ∧ EntR kts ps
  | [], _, r, _ => by
    rw [List.map_nil] at r
    cases r
    exact ⟨[], trivial, .nil⟩
  | t :: kts, _, r, hk => by
    rw [List.map_cons] at r
    cases r with
    | @cons a b as bs q rest =>
      obtain ⟨ps, c, e⟩ := carriesT ok rest fun u hu => hk u (List.mem_cons_of_mem _ hu)
      obtain ⟨u1, u2⟩ := b
      obtain ⟨q1, q2⟩ := q
      obtain rfl : u1 = Value.ref t.2.1 := q1
      exact ⟨(t.1, t.2.1, u2) :: ps, ⟨rfl, rfl, key_of ok (hk t List.mem_cons_self), c⟩, .cons ⟨rfl, rfl, q2⟩ e⟩
def tDispT (trs : List (TE × TE)) : TE := fun σ H Q => ∀ p, H p = none → tPairs trs σ (upd H p (.dT [])) fun ps H2 => H2 p = some (.dT []) ∧ ∃ kts : List Ent, ps = kts.map (fun t => (V.ref t.2.1, t.2.2)) ∧ (∀ t ∈ kts, H2 t.2.1 = some (.tup (t.1.map kV))) ∧ kts.length ≤ 15 ∧ Q (.ref p) (upd H2 p (.dT (mergeT [] kts)))
theorem pe_dispT (hu : X.A.units < cLine) {pos : Pos} {keys : List (Option Expr)} {values : List Expr} {trs : List (TE × TE)} (h : PPs X pos keys values trs) (hall : keys.all (·.isSome) = true) (hl : keys.length = values.length) (h0 : keys ≠ []) (h15 : keys.length ≤ 15) :
    PE X (.Dict keys values pos) (tDispT trs) := by
  refine ⟨fun pins s σ H Q I q => ?_⟩
  have fr := I.hok.fresh (Nat.le_refl s.heap.objs.size)
  have I1 := I.laid (a := s.heap.objs.size) (o := .dT []) (h' := s.heap.push { cls := .type "dict", data := .dict #[] }) (t' := s.toks) (fun _ _ z => Heap.get?_push_of_some _ z) (Nat.le_refl _) (dt_empty s.heap I.big)
  have ln := pairTrees_length keys values X.env pos hall hl
  have ne : pairTrees keys values X.env pos ≠ [] := fun z => h0 (List.length_eq_zero_iff.mp (by rw [z] at ln; exact ln.symm))
  rw [arm_eval_Dict, zip_pairTrees keys values X.env pos hall hl, dictDisplay_pairs _ ne (by rw [ln]; omega)]
  refine wpAny_bind (wpAny_standAt (wpAny_bind (wpAny_subDictH (knd := tupleKind (mixKind X.prog X.w)) (Q := fun d s' => wpAny (model X.prog X.w) X.A (pure (Value.ref d)) (EP X pins σ Q) X.xe s') hu (by rw [ln]; exact h15)
    (thn (h.run pins _ σ _ _ I1 (q _ fr)) fun ws s2 ⟨ps, H2, I2, rel, e, kts, ep, hk, lk, q2⟩ => ?_))))
  subst ep
  obtain ⟨rs, c, er⟩ := carriesT I2.hok rel hk
  obtain ⟨z, sy, xs0, r0, dd⟩ := dt_of I2.hok e
  cases r0
  refine ⟨rs, c, dd, fun h' tk dd' hs => wpAny_pure ⟨.ref s.heap.objs.size, upd H2 s.heap.objs.size (.dT (mergeT [] kts)), ?_, rfl, q2⟩⟩
  have hz : (mergeT [] kts).length ≤ sizeLine := Nat.le_trans (mergeT_len kts []) (by rw [List.length_nil, sizeLine_eq]; omega)
  obtain ⟨q', es', ep', hq', h2', h3', h4', _, h5'⟩ := dd'
  refine d_write (t' := tk) I2 (by rw [e]; exact True.intro) hs ⟨q', hq'⟩ ⟨hz, sy, storedAllH [] rs, (ktAll er hk .nil).keeps fun b ys eb => ?_, q', es', ep', hq', h2', h3', h4', h5'⟩
  rw [upd_ne (ne_of eb e (fun z => nomatch z))]
  exact eb
/-! ### dict([((..), v), ..]) -/
theorem call_dictPT (hcalm : X.calm = true) (hu : X.A.units + 64 < cLine) : CallR X (.type "dict") (fun xs H Q => ∃ (a : Addr) (ps : List Addr) (kts : List Ent), xs = [.ref a] ∧ SqL X.K H a (ps.map V.ref) ∧ Paired (fun p t => H p = some (.tup [.ref t.2.1, t.2.2])) ps kts ∧ (∀ t ∈ kts, H t.2.1 = some (.tup (t.1.map kV))) ∧
    ∀ p, H p = none → Q (.ref p) (upd H p (.dT (mergeT [] kts)))) := by
  intro pins s σ H xs us Q I r q
  obtain ⟨a, ps, kts, rfl, hq, hp, hk, q⟩ := q
  rw [Vals.ref1 r]
  obtain ⟨its, rv, pl, hz⟩ := I.list hq
  obtain rfl := refs_at rv
  rw [List.length_map] at hz
  -- the raw pairs
  have raw : ∃ prs : List (List L2.Key × Addr × Value), EntR kts prs ∧ prs.length = ps.length ∧ ∀ (j : Nat) (b : Addr) (p : List L2.Key × Addr × Value), ps[j]? = some b → prs[j]? = some p → PairAt s.heap b (.ref p.2.1) p.2.2 := by
    clear rv pl hz hk q hq r
    induction hp with
    | nil => exact ⟨[], .nil, rfl, fun j b p e => by simp at e⟩
    | @cons p t ps kts h1 _ ih =>
      obtain ⟨prs, e1, e2, e3⟩ := ih
      obtain ⟨_, its, rv, o, ho, hc, n, hd⟩ := I.hok p _ h1
      obtain ⟨u, y, rfl, ru, ry⟩ := vals2 rv
      obtain rfl : u = Value.ref t.2.1 := ru
      refine ⟨(t.1, t.2.1, y) :: prs, .cons ⟨rfl, rfl, ry⟩ e1, by rw [List.length_cons, List.length_cons, e2], fun j b p' g1 g2 => ?_⟩
      cases j with
      | zero =>
        obtain rfl : p = b := Option.some.inj g1
        obtain rfl : (t.1, t.2.1, y) = p' := Option.some.inj g2
        exact .inl ⟨o, ho, hc, n, hd⟩
      | succ j => exact e3 j b p' (by simpa using g1) (by simpa using g2)
  obtain ⟨prs, er, el, ep⟩ := raw
  obtain ⟨o, n, ho, hc, hd, hdat⟩ := pl
  have items : PairItems s.heap (ps.map Value.ref).toArray (fun j => ps.getD j 0) (prs.map fun p => (Value.ref p.2.1, p.2.2)) := by
    refine ⟨by simp [el], fun j k v e => ?_⟩
    rw [List.getElem?_map] at e
    obtain ⟨p, e1, e2⟩ := Option.map_eq_some_iff.mp e
    have lt : j < ps.length := by rw [← el]; exact (List.getElem?_eq_some_iff.mp e1).1
    have g : ps[j]? = some ps[j] := List.getElem?_eq_getElem lt
    have gd : ps.getD j 0 = ps[j] := by rw [List.getD_eq_getElem?_getD, g]; rfl
    injection e2 with e3 e4
    subst e3 e4
    refine ⟨by simp [g, gd], ?_⟩
    show PairAt s.heap (ps.getD j 0) _ _
    rw [gd]
    exact ep j _ p g e1
  have keyAt : ∀ x ∈ prs, ∃ t ∈ kts, x.1 = t.1 ∧ x.2.1 = t.2.1 := fun x hx => by
    obtain ⟨i, hi, ei⟩ := List.mem_iff_getElem.mp hx
    have lk : kts.length = prs.length := entR_len er
    have g1 : kts[i]? = some kts[i] := List.getElem?_eq_getElem (by omega)
    obtain ⟨y, gy, h1, h2, _⟩ := paired_get er g1
    rw [List.getElem?_eq_getElem hi, ei] at gy
    obtain rfl := Option.some.inj gy
    exact ⟨_, List.getElem_mem _, h1.symm, h2.symm⟩
  have fresh : ∀ {b : Addr} {ob : HO}, H b = some ob → b ≠ s.heap.objs.size := fun {b ob} e => Nat.ne_of_lt (I.hok.lt e)
  refine call_dict_pairsH (knd := tupleKind (mixKind X.prog X.w)) (ps := prs) (PairArg.list a (ps.map Value.ref).toArray (fun j => ps.getD j 0) (prs.map fun p => (Value.ref p.2.1, p.2.2))) (I.ok.hd hcalm) (by show X.A.units + 1 + 1 < cLine; omega)
    ⟨⟨o, n, ho, hc, hd, hdat⟩, items⟩ ⟨by rw [List.length_map], fun i key v e => ?_⟩ (fun h' k x hx => ?_) (by rw [List.length_map, el]; exact hz) fun h' tk hd' k => ?_
  · have e : (prs.map fun p => (Value.ref p.2.1, p.2.2))[i]? = some (key, v) := e
    rw [List.getElem?_map] at e
    obtain ⟨p, e1, e2⟩ := Option.map_eq_some_iff.mp e
    injection e2 with e3 e4
    subst e3 e4
    exact ⟨p.1, p.2.1, e1, rfl⟩
  · obtain ⟨t, ht, e1, e2⟩ := keyAt x hx
    have kt := hk t ht
    rw [← e1, ← e2] at kt
    obtain ⟨oc, its', m, e5, e6, e7, e8⟩ := key_of I.hok kt
    exact ⟨oc, its', m, k _ _ (Nat.ne_of_lt (Heap.lt_size e5)) (by simp) e5, e6, e7, e8⟩
  · have lk : kts.length = ps.length := (entR_len er).trans el
    have hz2 : (mergeT [] kts).length ≤ sizeLine := Nat.le_trans (mergeT_len kts []) (by rw [List.length_nil, Nat.zero_add, lk]; exact hz)
    have sy : (s.heap.objs.size == sysModules) = false := beq_eq_false_iff_ne.mpr (Nat.ne_of_gt I.big)
    obtain ⟨q', es', ep', hq', h2', h3', h4', _, h5'⟩ := hd'
    refine ⟨.ref s.heap.objs.size, _, I.laid (t' := tk) (o := .dT (mergeT [] kts)) (fun b ob e => k b ob (by simp) e) (Nat.le_refl _) ⟨hz2, sy, storedAllH [] prs, (ktAll er hk .nil).keeps fun b ys eb => ?_, q', es', ep', hq', h2', h3', h4', h5'⟩, rfl, q _ (I.hok.fresh (Nat.le_refl _))⟩
    rw [upd_ne (fresh eb)]
    exact eb
end
end Kd

namespace Kd
open PySem PySem.Spec PyProof.Rows L2 Pk
/-! ### for (..), v in d.items(), the keys tuples -/
/-- an entry's pair: a new tuple of the key's own tuple and the value -/
def ItiT (d : Addr) (o : Obj) (kvs : List (List L2.Key × V)) : It :=
  ⟨fun i H => H d = some (.frz o (.dT kvs)) ∧ i < kvs.length, fun i H x H' => ∃ T k v q, kvs[i]? = some (k, v) ∧ x = .ref T ∧ H q = some (.tup (k.map kV)) ∧ H T = none ∧ H' = upd H T (.tup [.ref q, v]), fun i H => H d = some (.frz o (.dT kvs)) ∧ kvs.length ≤ i⟩
def iItemsT (td : TE) : TI := fun σ H R => td σ H fun x H1 => ∃ d o kvs, x = .ref d ∧ H1 d = some (.frz o (.dT kvs)) ∧ R (ItiT d o kvs) H1
section
variable {X : Cx} {pins : List (Addr × Obj)} {σ : L2.St} {H : Hp} {s : Shared} {d : Addr} {o : Obj}
/-- the locked dict, its entries -/
theorem frzE {kvs : List (List L2.Key × V)} (I : Inv X pins σ H s) (h : H d = some (.frz o (.dT kvs))) :
    (d == sysModules) = false ∧ s.heap.get? d = some o ∧ o.ExactDict ∧ ∃ (es : Array DictEntry) (ep : Nat), o.data = .dict es ep ∧ es.size = kvs.length ∧
      ∀ (i : Nat) (k : List L2.Key) (v : V), kvs[i]? = some (k, v) → ∃ (en : DictEntry) (q : Addr), es[i]? = some en ∧ en.key = .ref q ∧ RelV v en.val ∧ H q = some (.tup (k.map kV)) := by
  obtain ⟨hd, z, hs, xs, pr, o', es, ep, ho, hx, hdt, he, _⟩ := I.hok d _ h
  obtain rfl : o = o' := Option.some.inj (hd.symm.trans ho)
  refine ⟨hs, hd, hx, es, ep, hdt, (size_of_entries he).trans (Paired.length pr).symm, fun i k v e => ?_⟩
  obtain ⟨b, hb, e1, e2, rv⟩ := paired_get pr e
  have q := entry_at he i
  rw [hb] at q
  exact ⟨_, b.2.1, q, rfl, rv, e2⟩
end
theorem turn_itemsT {P : Program} {w : World} {K : PySem.W.Frag} {d : Addr} {o : Obj} {es : Array DictEntry} {ep : Nat} {kvs : List (List L2.Key × V)} {elts : List Expr} {kk : Nat} {tpos : Pos} (it : Addr) (hod : o.data = .dict es ep) :
    Turn P w K (.Tuple elts kk tpos) (ItiT d o kvs) [it] it (fun i h => ∃ ok ov, IsItemIter h it d i kvs.length ep ok ov) where
  mem := List.mem_singleton.mpr rfl
  obj := fun i h ⟨ok, ov, e⟩ b hb => by
    obtain rfl := List.mem_singleton.mp hb
    exact ⟨_, e, fun v z => nomatch z⟩
  keep := fun i h h' ⟨ok, ov, e⟩ k => ⟨ok, ov, k it (List.mem_singleton.mpr rfl) _ e⟩
  item := by
    rintro X rfl rfl rfl hc i pins s σ H E I hf ⟨ok, ov, he⟩ ⟨hd, hi⟩
    obtain ⟨hs, hgd, hx, es', ep', hdt, hsz, ent⟩ := frzE I hd
    obtain ⟨rfl, rfl⟩ := dict_ep hod hdt
    obtain ⟨en, q, hen, hkey, rv, hq⟩ := ent i _ _ (List.getElem?_eq_getElem hi)
    have lt : i < es'.size := by omega
    obtain rfl : es'[i] = en := Option.some.inj ((Array.getElem?_eq_getElem lt).symm.trans hen)
    have hlt : it < s.heap.objs.size := Heap.lt_size he
    rw [← hsz] at he
    refine DT.nextI he ⟨o, hgd, hx, hdt⟩ lt fun h' ho hT hz hk => ⟨_, rfl, wpAny_letOwnedTupleGo_items (s := { s with heap := h' }) ho fun h'' he' sb => ?_⟩
    rw [hkey] at hT
    have hT2 : h''.get? s.heap.objs.size = some { cls := .type "tuple", data := .seq #[.ref q, es'[i].val] } := (sb.2 _ (Nat.ne_of_gt hlt)).trans hT
    have new : ObjOk X.prog X.w (upd H s.heap.objs.size (.tup [.ref q, kvs[i].2])) h'' s.heap.objs.size (.tup [.ref q, kvs[i].2]) :=
      ⟨sz (by show 2 ≤ 1000; decide), [.ref q, es'[i].val], .cons rfl (.cons rv .nil), ⟨_, hT2, rfl, _, rfl⟩⟩
    have I1 : Inv X pins σ (upd H s.heap.objs.size (.tup [.ref q, kvs[i].2])) { s with heap := h'' } :=
      I.turnedNew (t' := s.toks) (ch := [it]) (fun b ob hb e => (sb.2 b (fun z => hb (List.mem_singleton.mpr z))).trans (hk b ob (fun z => hb (List.mem_singleton.mpr z)) e)) hf (Nat.le_refl _) new
    refine ⟨.ref s.heap.objs.size, _, I1, rfl, ⟨_, kvs[i].1, kvs[i].2, q, List.getElem?_eq_getElem hi, rfl, hq, I.hok.fresh (Nat.le_refl _), rfl⟩, ⟨_, _, by rw [← hsz]; exact he'⟩, fun b hb => ?_⟩
    obtain rfl := List.mem_singleton.mp hb
    rw [upd_ne (Nat.ne_of_lt hlt)]
    exact (hf b hb).1
  done := by
    rintro X rfl rfl rfl hc i pins s σ H E I hf ⟨ok, ov, he⟩ ⟨hd, hi⟩
    obtain ⟨f0, f1, f2, f3, f4, f5⟩ := hf it (List.mem_singleton.mpr rfl)
    obtain ⟨hs, hgd, hx, es', ep', hdt, hsz, ent⟩ := frzE I hd
    obtain ⟨rfl, rfl⟩ := dict_ep hod hdt
    rw [← hsz] at he
    exact DT.endI (I.ok.hd hc) he ⟨o, hgd, hx, hdt⟩ (by omega) fun h' eb => ⟨rfl, I.turned (t' := s.toks) (fun b ob hb e => eb b ob hb e) f0 f1 f3 f4 f5⟩
  self := fun A i s Q E ⟨_, _, e⟩ h => PySem.W.kcp_self e h
section
variable {X : Cx}
theorem pi_itemsT {elts : List Expr} {kk : Nat} {tpos apos cpos : Pos} {e : Expr} {td : TE} (he : PE X e td) (hbase : attributeBase e "items" X.env (eval e X.env) = eval e X.env := by rfl) (hline : (apos.endLine == cpos.line) = true := by rfl) :
    PI X (.Tuple elts kk tpos) (.Call (.Attribute e "items" apos) [] [] cpos) (iItemsT td) := by
  refine ⟨fun pins s σ H R I h => ?_⟩
  refine wpAny_Call_method (T := "dict") (id := "dict.items") hbase rfl hline F.plainAttrs_dict F.slot_dict_items F.type_dict_items (thn (he.run pins s σ H _ I h) fun u s1 ⟨x, H1, I1, rx, d, o, kvs, ex, hd, q⟩ => ?_)
  subst ex
  obtain rfl : u = Value.ref d := rx
  obtain ⟨hs, hgd, hx, es, ep, hdt, hsz, ent⟩ := frzE I1 hd
  have raw : DT.Raw s1.heap d es ep := ⟨o, hgd, hx, hdt⟩
  have nd : ∀ b, Value.ref d = .ref b → ∃ ob, s1.heap.get? b = some ob ∧ ob.dict = none := fun b eb => by
    cases eb
    exact ⟨o, hgd, hx.2.1⟩
  refine ⟨raw.typeIs, nd, ?_⟩
  have I2 : Inv X pins σ H1 { s1 with heap := s1.heap.push { cls := .type "dict_items", data := .fields #[.ref d] } } := I1.kept (t' := s1.toks) fun b ob q => Heap.get?_push_of_some _ q
  have fin : wpAny (model X.prog X.w) X.A (pyIter (.ref s1.heap.objs.size)) (PIE X pins σ (.Tuple elts kk tpos) R) X.xe { s1 with heap := s1.heap.push { cls := .type "dict_items", data := .fields #[.ref d] } } := by
    refine DT.iterI (d := d) (v := s1.heap.objs.size) ⟨_, Heap.get?_push_size _ rfl, rfl, rfl⟩ (raw.push _) (pi_one (tk := s1.toks) I2 _ (turn_itemsT _ hdt) ⟨.none, .none, ?_⟩ q)
    rw [← hsz]
    exact Heap.get?_push_size _ rfl
  show wpAny _ _ (callWith cpos (.builtin "dict.items") [.ref d] [] []) _ X.xe s1
  exact method_meetsIn F.slot_dict_items F.entry_dict_items rfl (PySem.evalArgs_none ⟨rfl, raw.typeIs, F.args_dict_items_1 _, _, DT.meetsItems hs, raw, fin⟩)
end
end Kd

namespace Kd
open PySem PySem.Spec PyProof.Rows L2 Pk
/-! ### {(..): v for .. in .. if ..}, the keys tuples -/
section
variable {X : Cx}
/-- one entry stored by the comprehension -/
theorem d_dictSetT {pins : List (Addr × Obj)} {σ : L2.St} {H : Hp} {s : Shared} {E : Value → Shared → Prop} {D b : Addr} {kvs : List (List L2.Key × V)} {k : List L2.Key} {v : V} {u r : Value} {Q : Unit → Shared → Prop} (hu : X.A.units < cLine) (I : Inv X pins σ H s)
    (hD : H D = some (.dT kvs)) (hb : H b = some (.tup (k.map kV))) (hz : kvs.length < sizeLine) (ry : RelV (.ref b) u) (rv : RelV v r) (h : ∀ s', Inv X pins σ (upd H D (.dT (putK kvs k v))) s' → Q () s') :
    wpAny (model X.prog X.w) X.A (dictSet D u r) Q E s := by
  obtain rfl : u = Value.ref b := ry
  obtain ⟨z, sy, xs, rel, dd⟩ := dt_of I.hok hD
  have hl : (putK kvs k v).length ≤ sizeLine := by have := length_putK kvs k v; omega
  refine wpAny_dictSet_heap (hsz := by rw [← Paired.length rel]; exact z) (knd := tupleKind (mixKind X.prog X.w)) hu (key_of I.hok hb) dd fun h' dd' hs => h _ ?_
  obtain ⟨q, es, ep, hq, h2, h3, h4, _, h5⟩ := dd'
  refine d_write I (by rw [hD]; exact True.intro) hs ⟨q, hq⟩ ⟨hl, sy, _, (rel.put k hb rv).keeps fun c ys ec => ?_, q, es, ep, hq, h2, h3, h4, h5⟩
  rw [upd_ne (ne_of ec hD (fun z => nomatch z))]
  exact ec
/-- what a turn asks: the target, the tests, key and value, the store -/
def dcTurn (g : TG) (tt : TT) (tk tv : TE) (vs : List Nat) (σ : L2.St) (D : Addr) (Nx : Hp → Prop) (x : V) (H : Hp) : Prop :=
  g x (wipe σ vs) H fun σ2 H2 => wipe σ2 vs = wipe σ vs ∧ tt σ2 H2 fun b H3 => if b = true then tk σ2 H3 fun y H4 => tv σ2 H4 fun z H5 =>
    ∃ kvs k q, y = .ref q ∧ H5 q = some (.tup (k.map kV)) ∧ H5 D = some (.dT kvs) ∧ kvs.length < sizeLine ∧ Nx (upd H5 D (.dT (putK kvs k z))) else Nx H3
def tDcT (wi : TI) (g : TG) (tt : TT) (tk tv : TE) (vs : List Nat) : TE := fun σ H Q => wi σ H fun J H1 => ∀ D, H1 D = none → ∃ W : Nat → Nat → Hp → Prop, (∃ m, W 0 m (upd H1 D (.dT []))) ∧ ∀ i m H, W i m H →
  (J.stop i H ∧ Q (.ref D) H) ∨ (J.go i H ∧ ∃ Nx : Hp → Prop, (∀ H', Nx H' → ∃ m', m' < m ∧ W (i + 1) m' H') ∧ ∀ x H', J.yld i H x H' → dcTurn g tt tk tv vs σ D Nx x H')
theorem dcT_core {pins : List (Addr × Obj)} {s : Shared} {σ : L2.St} {H : Hp} {Q : VK} {kx vx tg iter : Expr} {ifs : List Expr} {scope : Scope} {own : List (Str × Nat)} {pos pos' : Pos} {wi : TI} {g : TG} {tt : TT} {tk tv : TE} {use : Option (Value → Sem Unit)} {Qf : Value → Shared → Prop}
    (hu : X.A.units < cLine) (hc : X.calm = true) (hN : X.N.Nodup) (I : Inv X pins σ H s) (hi : PI X tg iter wi) (ok : BlkOk X.N X.env.scope scope own)
    (hg : ∀ (s : Shared) (H : Hp) (C : Addr) (cl : List (Str × Addr)) (fp : List Addr), PG (X.blk s H scope (compEnvC scope cl C X.env) fp) tg g) (ht : ∀ (s : Shared) (H : Hp) (C : Addr) (cl : List (Str × Addr)) (fp : List Addr), PTs (X.blk s H scope (compEnvC scope cl C X.env) fp) ifs tt)
    (hk : ∀ (s : Shared) (H : Hp) (C : Addr) (cl : List (Str × Addr)) (fp : List Addr), PE (X.blk s H scope (compEnvC scope cl C X.env) fp) kx tk) (he : ∀ (s : Shared) (H : Hp) (C : Addr) (cl : List (Str × Addr)) (fp : List Addr), PE (X.blk s H scope (compEnvC scope cl C X.env) fp) vx tv)
    (hs : ∀ x, foldedSetIterable iter X.env x = pure x) (h : tDcT wi g tt tk tv (own.map (·.2)) σ H Q)
    (hR : ∀ D C s' m H', Inv X pins σ H' s' → Q (.ref D) H' → s'.heap.Ns C m → FpOk X pins H' C → compPost (model X.prog X.w) X.A X.xe use Qf (.ref D) C (.ok .next) s') :
    wpAny (model X.prog X.w) X.A (comprehension (.DictComp kx vx [⟨tg, iter, ifs, 0⟩] scope pos) scope X.env pos' newDict false (eval iter X.env) use) Qf X.xe s := by
  -- the names that the block captures have their cells
  have captured : closureFor scope X.env = pure (cloFrom X.env.cells scope.names []) := closure_ok fun y hy e => I.ok.has _ (ok.free y hy e)
  refine wpAny_comprehension_free (use := use) rfl hs captured ok.kind (fun y hy e => by rw [ok.uniq y hy, e]) (thn (hi.run pins s σ H _ I h) fun xv s1 walked => thn walked fun itv s2 came => ?_)
  obtain ⟨it, fp, tn, J, Hi, rfl, Ii, T, stI, fpI, rest⟩ := came
  refine wpAny_newObj_type (newEnv_comp ?_)
  -- the new dict
  generalize eD : s2.heap.objs.size = D
  have freshD : Hi D = none := Ii.hok.fresh (Nat.le_of_eq eD)
  obtain ⟨W, ⟨m0, w0⟩, turn⟩ := rest D freshD
  have keep3 : ∀ b o, s2.heap.get? b = some o → (s2.heap.push { cls := .type "dict", data := .dict #[] }).get? b = some o := fun b o e => Heap.get?_push_of_some _ e
  have I3 : Inv X pins σ (upd Hi D (.dT [])) { s2 with heap := s2.heap.push { cls := .type "dict", data := .dict #[] } } :=
    Ii.laid (t' := s2.toks) keep3 (Nat.le_of_eq eD) (by rw [← eD]; exact dt_empty s2.heap Ii.big)
  have young : ∀ b ∈ fp, b < s2.heap.objs.size := fun b hb => let ⟨_, e, _⟩ := T.obj _ _ stI b hb; Heap.lt_size e
  generalize e3 : ({ s2 with heap := s2.heap.push { cls := .type "dict", data := .dict #[] } } : Shared) = s3 at I3
  have h3 : s3.heap = s2.heap.push { cls := .type "dict", data := .dict #[] } := by rw [← e3]
  have fp3 : ∀ b ∈ fp, FpOk X pins (upd Hi D (.dT [])) b ∧ b < s3.heap.objs.size := fun b hb => by
    have lt := young b hb
    refine ⟨⟨by rw [upd_ne (show b ≠ D from Nat.ne_of_lt (by rw [← eD]; exact lt))]; exact (fpI b hb).1, (fpI b hb).2⟩, ?_⟩
    rw [h3, Heap.size_push]
    exact Nat.lt_succ_of_lt lt
  have st3 : tn 0 s3.heap := T.keep _ _ _ stI fun b _ o e => by rw [h3]; exact keep3 b o e
  have blk := block_start I3 ok hN fp3
  generalize eH : upd Hi D (.dT []) = H3 at I3 blk w0 fp3
  have pg := hg s3 H3 s3.heap.objs.size (cellsFrom (s3.heap.objs.size + 1) scope.names (cloFrom X.env.cells scope.names [])) fp
  have pt := ht s3 H3 s3.heap.objs.size (cellsFrom (s3.heap.objs.size + 1) scope.names (cloFrom X.env.cells scope.names [])) fp
  have pk := hk s3 H3 s3.heap.objs.size (cellsFrom (s3.heap.objs.size + 1) scope.names (cloFrom X.env.cells scope.names [])) fp
  have pe := he s3 H3 s3.heap.objs.size (cellsFrom (s3.heap.objs.size + 1) scope.names (cloFrom X.env.cells scope.names [])) fp
  show codeAny _ _ (.compStart (.DictComp kx vx [⟨tg, iter, ifs, 0⟩] scope pos) 0 (.ref it) (.ref D) (compEnvC scope (cellsFrom (s3.heap.objs.size + 1) scope.names (cloFrom X.env.cells scope.names [])) s3.heap.objs.size X.env))
    (compPost (model X.prog X.w) X.A X.xe use Qf (.ref D) s3.heap.objs.size) { s3 with heap := pushCells (s3.heap.push { cls := .type "dict", data := .dict #[] }) scope.names }
  generalize ec : compEnvC scope (cellsFrom (s3.heap.objs.size + 1) scope.names (cloFrom X.env.cells scope.names [])) s3.heap.objs.size X.env = ce at blk pg pt pk pe ⊢
  have eL : ce.locals = s3.heap.objs.size := by rw [← ec]; rfl
  generalize e4 : ({ s3 with heap := pushCells (s3.heap.push { cls := .type "dict", data := .dict #[] }) scope.names } : Shared) = s4 at blk ⊢
  have st4 : tn 0 s4.heap := T.keep _ _ _ st3 fun b _ o e => by rw [← e4]; exact pushCells_keeps _ _ _ _ (Heap.get?_push_of_some _ e)
  -- the iterator's objects, seen from the block
  have seen : ∀ {σ' : L2.St} {H' : Hp} {s' : Shared}, Inv (X.blk s3 H3 scope ce fp) [] σ' H' s' → (∀ b ∈ fp, H' b = none) → ∀ b ∈ fp, FpOk (X.blk s3 H3 scope ce fp) [] H' b := fun {σ' H' s'} J' n b hb =>
    ⟨n b hb, (J'.ok.exf b hb).1, J'.ok.exfs b hb, .inl hb, fun x c e => (J'.ok.exf b hb).2 x c e, fun p hp => nomatch (show p ∈ ([] : List (Addr × Obj)) from hp)⟩
  have loop : codeAny (model X.prog X.w) X.A (.compLoop (.DictComp kx vx [⟨tg, iter, ifs, 0⟩] scope pos) 0 (.ref it) (.ref D) ce) (compPost (model X.prog X.w) X.A X.xe use Qf (.ref D) s3.heap.objs.size) s4 := by
    refine compLoop_anyD (fun n s' => ∃ i H', Inv (X.blk s3 H3 scope ce fp) [] (wipe σ (own.map (·.2))) H' s' ∧ tn i s'.heap ∧ (∀ b ∈ fp, H' b = none) ∧ W i n H') ?_ m0 ⟨0, H3, blk, st4, fun b hb => (fp3 b hb).1.1, w0⟩
    rintro n s5 ⟨i, H5, I5, st5, n5, w5⟩
    rcases turn i n H5 w5 with ⟨stop, fin⟩ | ⟨go, Nx, hNx, step⟩
    · refine thnF (T.done (X.blk s3 H3 scope ce fp) rfl rfl rfl hc i [] s5 _ H5 (fun _ _ => False) I5 (seen I5 n5) st5 stop) fun r s6 ⟨er, I6⟩ => ?_
      subst er
      have back : Inv X pins σ H5 s6 := I3.call' (ch := fp) I6.os I6.base I6.hok I6.bare fun b hb => ⟨(fp3 b hb).1.2.2.2.1, (fp3 b hb).1.2.1, (fp3 b hb).1.2.2.2.2.1, (fp3 b hb).1.2.2.2.2.2⟩
      have noC : H5 s3.heap.objs.size = none := by
        have z : H5 ce.locals = none := I6.free
        rw [eL] at z
        exact z
      obtain ⟨m, hm, _⟩ := I6.loc
      have hm' : s6.heap.Ns s3.heap.objs.size m := by rw [← eL]; exact hm
      obtain ⟨_, f1, f2, f3, f4, f5⟩ := I3.fpOk (Nat.le_refl _) noC
      exact hR D s3.heap.objs.size s6 m H5 back fin hm' ⟨noC, f1, f2, f3, f4, f5⟩
    · refine thnF (T.item (X.blk s3 H3 scope ce fp) rfl rfl rfl hc i [] s5 _ H5 (fun _ _ => False) I5 (seen I5 n5) st5 go) fun r s6 ⟨u, er, let6⟩ => ?_
      subst er
      refine thnF let6 fun _ s7 ⟨x, H7, I7, r7, y7, st7, n7⟩ => ?_
      have pinned := I7.pinned (seen I7 n7) (T.obj _ _ st7)
      have q7 : dcTurn g tt tk tv (own.map (·.2)) σ D Nx x H7 := step x H7 y7
      refine thnF (pg.run _ s7 _ H7 x u _ pinned r7 q7) fun _ s8 ⟨σ8, H8, I8, hw8, q8⟩ => thnF (pt.run _ s8 σ8 H8 _ I8 q8) fun b s9 ⟨H9, I9, q9⟩ => ?_
      have ends : ∀ {s' : Shared} {H' : Hp}, Inv (X.blk s3 H3 scope ce fp) ([] ++ pinsAt fp s7.heap) σ8 H' s' → Nx H' → ∃ m, m < n ∧ ∃ i H', Inv (X.blk s3 H3 scope ce fp) [] (wipe σ (own.map (·.2))) H' s' ∧ tn i s'.heap ∧ (∀ b ∈ fp, H' b = none) ∧ W i m H' := fun {s' H'} J' nx => by
        obtain ⟨m', lt, w'⟩ := hNx H' nx
        have stays : ∀ b ∈ fp, ∀ o, s7.heap.get? b = some o → s'.heap.get? b = some o ∧ H' b = none := fun b hb o e => ⟨(J'.pin (b, o) (by simp [mem_pinsAt hb e])).1, (J'.pin (b, o) (by simp [mem_pinsAt hb e])).2.1⟩
        have ln : (wipe σ (own.map (·.2))).length = σ8.length := by rw [← hw8, wipe_length]
        refine ⟨m', lt, i + 1, H', (J'.unpinned (pins := [])).weak ln (fun j v e => (wipe_some (by rw [hw8]; exact e)).1), T.keep _ _ _ st7 fun b hb o e => (stays b hb o e).1, fun b hb => ?_, w'⟩
        obtain ⟨o, e, _⟩ := T.obj _ _ st7 b hb
        exact (stays b hb o e).2
      cases b with
      | false => exact ends I9 q9
      | true =>
        refine thnF (pk.run _ s9 σ8 H9 _ I9 q9) fun z s10 ⟨yk, H10, I10, r10, q10⟩ => thnF (pe.run _ s10 σ8 H10 _ I10 q10) fun z2 s11 ⟨yv, H11, I11, r11, kvs, k, qa, ek, hq11, hD11, hz11, nx⟩ => ?_
        subst ek
        exact d_dictSetT (X := X.blk s3 H3 scope ce fp) hu I11 hD11 hq11 hz11 r10 r11 fun s12 I12 => ends I12 nx
  exact codeAny_compStart_dict loop (T.self X.A 0 _ _ _ st4 loop)
theorem pe_dcT {kx vx tg iter : Expr} {ifs : List Expr} {scope : Scope} {own : List (Str × Nat)} {pos : Pos} {wi : TI} {g : TG} {tt : TT} {tk tv : TE} (hu : X.A.units < cLine) (hc : X.calm = true) (hN : X.N.Nodup) (hi : PI X tg iter wi) (ok : BlkOk X.N X.env.scope scope own)
    (hg : ∀ (s : Shared) (H : Hp) (C : Addr) (cl : List (Str × Addr)) (fp : List Addr), PG (X.blk s H scope (compEnvC scope cl C X.env) fp) tg g) (ht : ∀ (s : Shared) (H : Hp) (C : Addr) (cl : List (Str × Addr)) (fp : List Addr), PTs (X.blk s H scope (compEnvC scope cl C X.env) fp) ifs tt)
    (hk : ∀ (s : Shared) (H : Hp) (C : Addr) (cl : List (Str × Addr)) (fp : List Addr), PE (X.blk s H scope (compEnvC scope cl C X.env) fp) kx tk) (he : ∀ (s : Shared) (H : Hp) (C : Addr) (cl : List (Str × Addr)) (fp : List Addr), PE (X.blk s H scope (compEnvC scope cl C X.env) fp) vx tv)
    (hs : ∀ x, foldedSetIterable iter X.env x = pure x := by intro _; rfl) : PE X (.DictComp kx vx [⟨tg, iter, ifs, 0⟩] scope pos) (tDcT wi g tt tk tv (own.map (·.2))) := by
  refine ⟨fun pins s σ H Q I h => ?_⟩
  rw [arm_eval_DictComp]
  refine dcT_core (use := none) hu hc hN I hi ok hg ht hk he hs h fun D C s' m H' I' q hn fo => ⟨m, hn, fun h'' sb => ?_⟩
  obtain ⟨f0, f1, f2, f3, f4, f5⟩ := fo
  exact ⟨.ref D, H', I'.turned (t' := s'.toks) (fun b o hb e => (sb.2 b hb).trans e) f0 f1 f3 f4 f5, rfl, q⟩
/-- name = {..} on one line, the name a local that no block captures -/
theorem ps_setDcT {i : Nat} {y : Str} {py : Pos} {kx vx tg iter : Expr} {ifs : List Expr} {scope : Scope} {own : List (Str × Nat)} {pos spos : Pos} {wi : TI} {g : TG} {tt : TT} {tk tv : TE} (hu : X.A.units < cLine) (hc : X.calm = true) (hN : X.N.Nodup) (hy : X.N[i]? = some y) (hyl : X.env.scope.names.lookup y = some .local)
    (hsw : swapsWith (.DictComp kx vx [⟨tg, iter, ifs, 0⟩] scope pos) (some (.Name y py)) spos.line X.env = pure true) (hi : PI X tg iter wi) (ok : BlkOk X.N X.env.scope scope own)
    (hg : ∀ (s : Shared) (H : Hp) (C : Addr) (cl : List (Str × Addr)) (fp : List Addr), PG (X.blk s H scope (compEnvC scope cl C X.env) fp) tg g) (ht : ∀ (s : Shared) (H : Hp) (C : Addr) (cl : List (Str × Addr)) (fp : List Addr), PTs (X.blk s H scope (compEnvC scope cl C X.env) fp) ifs tt)
    (hk : ∀ (s : Shared) (H : Hp) (C : Addr) (cl : List (Str × Addr)) (fp : List Addr), PE (X.blk s H scope (compEnvC scope cl C X.env) fp) kx tk) (he : ∀ (s : Shared) (H : Hp) (C : Addr) (cl : List (Str × Addr)) (fp : List Addr), PE (X.blk s H scope (compEnvC scope cl C X.env) fp) vx tv)
    (hs : ∀ x, foldedSetIterable iter X.env x = pure x := by intro _; rfl) : PS X (.Assign [.Name y py] (.DictComp kx vx [⟨tg, iter, ifs, 0⟩] scope pos) spos) (tAsg (tDcT wi g tt tk tv (own.map (·.2))) (gName i)) := by
  refine ⟨fun pins s σ H D I h => ?_⟩
  rw [exec_Assign_Name_used _ _ _ _ hsw]
  refine wpAny_bind (wpAny_standAt (wpAny_bind ?_))
  show wpAny _ X.A (do let _ ← comprehension (.DictComp kx vx [⟨tg, iter, ifs, 0⟩] scope pos) scope X.env (firstIterPos [⟨tg, iter, ifs, 0⟩] pos) newDict false (eval iter X.env) (some (assign (.Name y py) X.env))) _ _ s
  have h : tDcT wi g tt tk tv (own.map (·.2)) σ H (fun x H1 => gName i x σ H1 D.nx) := h
  refine wpAny_bind (thn (dcT_core (use := some (assign (.Name y py) X.env)) (Qf := fun _ s' => SP X pins D .next s') hu hc hN I hi ok hg ht hk he hs h fun L C s' m H' I' q hn fo => ?_) fun _ s' hq => wpAny_pure (wpAny_pure hq))
  show wpAny _ _ (assign (.Name y py) X.env (.ref L)) _ _ _
  refine wpAny_assign_Name (store_ok2 (v := V.ref L) I' hN hy (.inl hyl) rfl (fun s2 I2 ⟨a, sb, ha⟩ => ?_) (.inr hyl))
  obtain ⟨f0, f1, f2, f3, f4, f5⟩ := fo
  have other : C ≠ a := ha.elim (fun z => by rw [z]; exact f1) (fun z e => f4 y a z e.symm)
  exact ⟨m, hn.sameBut sb other, fun h3 sb3 => ⟨_, H', I2.turned (t' := s2.toks) (fun b o hb e => (sb3.2 b hb).trans e) f0 f1 f3 f4 f5, q⟩⟩
theorem sw_dict {kx vx : Expr} {gs : List Comprehension} {scope : Scope} {pos py : Pos} {y : Str} {l : Nat} {env : Env} (hk : env.scope.kind = .function) (hy : env.scope.names.lookup y = some .local) (hl : (py.line == pos.line) = true)
    (ha : (scope.names.any fun (n, k) => n == y && (k == .local || k == .cell)) = false) : swapsWith (.DictComp kx vx gs scope pos) (some (.Name y py)) l env = pure true := by
  have ky : env.kindOf y = some .local := hy
  have hb : env.blockKind = .function := by unfold Env.blockKind; rw [hk]; rfl
  unfold swapsWith
  simp only [hb, ky, ha, Expr.pos, hl]
  rfl
/-- over a tuple that stays as it is -/
theorem dcT_tup {K : PySem.W.Frag} {a : Addr} {xs : List V} {g : TG} {tt : TT} {tk tv : TE} {vs : List Nat} {σ : L2.St} {H1 : Hp} {D : Addr} {Qd : Hp → Prop} (Pv : Nat → Hp → Prop) (h0 : Pv 0 (upd H1 D (.dT []))) (hl : ∀ i H, i ≤ xs.length → Pv i H → SqT K H a xs)
    (hs : ∀ i x H, xs[i]? = some x → Pv i H → dcTurn g tt tk tv vs σ D (Pv (i + 1)) x H) (hd : ∀ H, Pv xs.length H → Qd H) :
    ∃ W : Nat → Nat → Hp → Prop, (∃ m, W 0 m (upd H1 D (.dT []))) ∧ ∀ i m H, W i m H →
      ((Itt K a).stop i H ∧ Qd H) ∨ ((Itt K a).go i H ∧ ∃ Nx : Hp → Prop, (∀ H', Nx H' → ∃ m', m' < m ∧ W (i + 1) m' H') ∧ ∀ x H', (Itt K a).yld i H x H' → dcTurn g tt tk tv vs σ D Nx x H') := by
  refine ⟨fun i m H => i + m = xs.length ∧ Pv i H, ⟨xs.length, Nat.zero_add _, h0⟩, fun i m H ⟨e, p⟩ => ?_⟩
  have q := hl i H (by omega) p
  cases m with
  | zero =>
    obtain rfl : i = xs.length := by omega
    exact .inl ⟨⟨xs, q, Nat.le_refl _⟩, hd H p⟩
  | succ m =>
    have lt : i < xs.length := by omega
    have g1 : xs[i]? = some xs[i] := List.getElem?_eq_getElem lt
    exact .inr ⟨⟨xs, xs[i], q, g1⟩, Pv (i + 1), fun H' p' => ⟨m, by omega, by omega, p'⟩, fun x H' ⟨eH, y⟩ => by subst eH; exact hs i x _ (y xs q) p⟩
end
end Kd

namespace Kd
open PySem PySem.Spec PyProof.Rows L2 Pk
/-! ### what stays where one object changes -/
def Kp (D : Addr) (H H' : Hp) : Prop := ∀ b o, b ≠ D → H b = some o → H' b = some o
theorem Kp.upd {D : Addr} {H : Hp} (o : HO) : Kp D H (L2.upd H D o) := fun b x n e => by rw [upd_ne n]; exact e
theorem Kp.of {D : Addr} {H H' : Hp} (s : Same H H') : Kp D H H' := fun b x _ e => s b x e
theorem Kp.trans {D : Addr} {H H1 H2 : Hp} (a : Kp D H H1) (b : Kp D H1 H2) : Kp D H H2 := fun c o n h => b c o n (a c o n h)
/-- not a tuple -/
def NoT (H : Hp) (D : Addr) : Prop := ∀ xs, H D ≠ some (.tup xs)
theorem NumV.kp {D : Addr} {H H' : Hp} {v : V} {r : Rat} (h : NumV H v r) (n : NoT H D) (k : Kp D H H') : NumV H' v r := by
  rcases h with h | ⟨d, p, e, hp⟩
  · exact .inl h
  · exact .inr ⟨d, p, e, k p _ (fun z => n _ (z ▸ hp)) hp⟩
theorem TermV.kp {D : Addr} {H H' : Hp} {v : V} {t : Pk.Tm} (h : TermV H v t) (n : NoT H D) (k : Kp D H H') : TermV H' v t := by
  obtain ⟨p, m, e, h1, h2⟩ := h
  exact ⟨p, m, e, k p _ (fun z => n _ (z ▸ h1)) h1, h2.kp n k⟩
abbrev TermsV (H : Hp) (us : List V) (ts : List Pk.Tm) : Prop := Paired (TermV H) us ts
theorem TermsV.same {H H' : Hp} {us : List V} {ts : List Pk.Tm} (h : TermsV H us ts) (s : Same H H') : TermsV H' us ts := Paired.mapP h fun _ _ q => q.same s
theorem TermsV.kp {D : Addr} {H H' : Hp} {us : List V} {ts : List Pk.Tm} (h : TermsV H us ts) (n : NoT H D) (k : Kp D H H') : TermsV H' us ts := Paired.mapP h fun _ _ q => q.kp n k
/-! ### dicts whose keys are pairs of powers -/
def k2 (p : Nat × Nat) : List L2.Key := [.inl (p.1 : Int), .inl (p.2 : Int)]
theorem k2_inj {p q : Nat × Nat} (h : k2 p = k2 q) : p = q := by
  obtain ⟨a, b⟩ := p
  obtain ⟨c, d⟩ := q
  unfold k2 at h
  injection h with h1 h2
  injection h2 with h2 _
  injection h1 with h1
  injection h2 with h2
  have : a = c := by dsimp only at h1; omega
  have : b = d := by dsimp only at h2; omega
  subst_vars
  rfl
structure DV (H : Hp) (kvs : List (List L2.Key × V)) (f : Co) : Prop where
  nd : (kvs.map (·.1)).Nodup
  at_ : ∀ kv ∈ kvs, ∃ p : Nat × Nat, kv.1 = k2 p ∧ p.1 + p.2 ≤ 6 ∧ NumV H kv.2 (f p.1 p.2)
  all : ∀ i j, f i j ≠ 0 → k2 (i, j) ∈ kvs.map (·.1)
theorem DV.same {H H' : Hp} {kvs : List (List L2.Key × V)} {f : Co} (h : DV H kvs f) (s : Same H H') : DV H' kvs f :=
  ⟨h.nd, fun kv m => let ⟨p, a, b, c⟩ := h.at_ kv m; ⟨p, a, b, c.same s⟩, h.all⟩
theorem DV.kp {D : Addr} {H H' : Hp} {kvs : List (List L2.Key × V)} {f : Co} (h : DV H kvs f) (n : NoT H D) (k : Kp D H H') : DV H' kvs f :=
  ⟨h.nd, fun kv m => let ⟨p, a, b, c⟩ := h.at_ kv m; ⟨p, a, b, c.kp n k⟩, h.all⟩
theorem DV.lw {H : Hp} {kvs : List (List L2.Key × V)} {f : Co} (h : DV H kvs f) : Lw f := fun i j lt => by
  by_cases z : f i j = 0
  · exact z
  · obtain ⟨kv, m, e⟩ := List.mem_map.mp (h.all i j z)
    obtain ⟨p, e2, le, _⟩ := h.at_ kv m
    have : p = (i, j) := k2_inj (e2.symm.trans e)
    subst this
    exact absurd lt (by dsimp only at le ⊢; omega)
theorem DV.nil (H : Hp) : DV H [] (cst 0) := ⟨List.nodup_nil, fun kv m => by simp at m, fun i j z => absurd (by unfold cst; split <;> rfl) z⟩
theorem DV.places {H : Hp} {kvs : List (List L2.Key × V)} {f : Co} (h : DV H kvs f) : ∃ ps : List (Nat × Nat), kvs.map (·.1) = ps.map k2 ∧ ps.Nodup ∧ (∀ p ∈ ps, p.1 + p.2 ≤ 6) ∧ ∀ i j, f i j ≠ 0 → (i, j) ∈ ps := by
  have key : ∀ l : List (List L2.Key × V), (∀ kv ∈ l, ∃ p : Nat × Nat, kv.1 = k2 p ∧ p.1 + p.2 ≤ 6 ∧ NumV H kv.2 (f p.1 p.2)) → ∃ ps : List (Nat × Nat), l.map (·.1) = ps.map k2 ∧ ∀ p ∈ ps, p.1 + p.2 ≤ 6 := by
    intro l
    induction l with
    | nil => intro _; exact ⟨[], rfl, fun p hp => by simp at hp⟩
    | cons a l ih =>
      intro h
      obtain ⟨ps, e, le⟩ := ih fun kv m => h kv (List.mem_cons_of_mem _ m)
      obtain ⟨p, e1, e2, _⟩ := h a List.mem_cons_self
      refine ⟨p :: ps, by rw [List.map_cons, List.map_cons, e, e1], fun q hq => ?_⟩
      rcases List.mem_cons.mp hq with rfl | hq
      · exact e2
      · exact le q hq
  obtain ⟨ps, e, le⟩ := key kvs h.at_
  have nd := h.nd
  rw [e] at nd
  refine ⟨ps, e, ?_, le, fun i j z => ?_⟩
  · refine List.Pairwise.imp ?_ (List.pairwise_map.mp nd)
    intro a b n e
    exact n (congrArg k2 e)
  · have m := h.all i j z
    rw [e] at m
    obtain ⟨p, hp, e2⟩ := List.mem_map.mp m
    rw [← k2_inj e2]
    exact hp
theorem DV.len {H : Hp} {kvs : List (List L2.Key × V)} {f : Co} (h : DV H kvs f) : kvs.length ≤ 28 := by
  obtain ⟨ps, e, nd, le, _⟩ := h.places
  have := low_len nd le
  have e2 : kvs.length = ps.length := by rw [← List.length_map (f := (·.1)) (as := kvs), e, List.length_map]
  omega
section
variable {α : Type} [DecidableEq α]
theorem putK_keys (kvs : List (α × V)) (k : α) (v : V) : (putK kvs k v).map (·.1) = if k ∈ kvs.map (·.1) then kvs.map (·.1) else kvs.map (·.1) ++ [k] := by
  unfold putK
  by_cases h : k ∈ kvs.map (·.1)
  · have : (kvs.any fun kv => decide (kv.1 = k)) = true := by
      obtain ⟨kv, m, e⟩ := List.mem_map.mp h
      exact List.any_eq_true.mpr ⟨kv, m, decide_eq_true e⟩
    rw [if_pos this, if_pos h, List.map_map]
    refine List.map_congr_left fun kv _ => ?_
    show (if kv.1 = k then (kv.1, v) else kv).1 = kv.1
    split <;> rfl
  · have : ¬ (kvs.any fun kv => decide (kv.1 = k)) = true := fun z => by
      obtain ⟨kv, m, e⟩ := List.any_eq_true.mp z
      exact h (List.mem_map.mpr ⟨kv, m, of_decide_eq_true e⟩)
    rw [if_neg this, if_neg h, List.map_append]
    rfl
theorem putK_mem {kvs : List (α × V)} {k : α} {v : V} {kv : α × V} (h : kv ∈ putK kvs k v) : (kv.1 = k ∧ kv.2 = v) ∨ (kv ∈ kvs ∧ kv.1 ≠ k) := by
  unfold putK at h
  split at h
  · obtain ⟨q, m, e⟩ := List.mem_map.mp h
    split at e
    · rename_i c
      subst e
      exact .inl ⟨c, rfl⟩
    · rename_i c
      subst e
      exact .inr ⟨m, c⟩
  · rename_i c
    rcases List.mem_append.mp h with m | m
    · refine .inr ⟨m, fun e => c (List.any_eq_true.mpr ⟨kv, m, decide_eq_true e⟩)⟩
    · rw [List.mem_singleton.mp m]
      exact .inl ⟨rfl, rfl⟩
theorem valV_some {kvs : List (α × V)} {k : α} {v : V} (h : valV kvs k = some v) : (k, v) ∈ kvs := by
  unfold valV at h
  obtain ⟨kv, e, rfl⟩ := Option.map_eq_some_iff.mp h
  have m := List.mem_of_find?_eq_some e
  have p0 := List.find?_some e
  have p : kv.1 = k := of_decide_eq_true p0
  rw [← p]
  exact m
theorem valV_none {kvs : List (α × V)} {k : α} (h : valV kvs k = none) : k ∉ kvs.map (·.1) := fun m => by
  unfold valV at h
  obtain ⟨kv, hm, e⟩ := List.mem_map.mp m
  have := List.find?_eq_none.mp (Option.map_eq_none_iff.mp h) kv hm
  exact this (decide_eq_true e)
end
theorem DV.put {H : Hp} {kvs : List (List L2.Key × V)} {f : Co} (h : DV H kvs f) {i j : Nat} (le : i + j ≤ 6) {v : V} {r : Rat} (hv : NumV H v r) : DV H (putK kvs (k2 (i, j)) v) (setC f i j r) := by
  refine ⟨?_, fun kv m => ?_, fun a b z => ?_⟩
  · rw [putK_keys]
    split
    · exact h.nd
    · rename_i c
      exact List.nodup_append.mpr ⟨h.nd, by simp, fun a ha b hb => by
        rw [List.mem_singleton.mp hb]
        intro e
        exact c (e ▸ ha)⟩
  · rcases putK_mem m with ⟨e1, e2⟩ | ⟨m, n⟩
    · refine ⟨(i, j), e1, le, ?_⟩
      rw [e2]
      unfold setC
      rw [if_pos ⟨rfl, rfl⟩]
      exact hv
    · obtain ⟨p, a, b, c⟩ := h.at_ kv m
      refine ⟨p, a, b, ?_⟩
      unfold setC
      rw [if_neg]
      · exact c
      · rintro ⟨e1, e2⟩
        refine n (a.trans ?_)
        obtain ⟨p1, p2⟩ := p
        dsimp only at e1 e2
        rw [e1, e2]
  · rw [putK_keys]
    unfold setC at z
    by_cases q : a = i ∧ b = j
    · obtain ⟨rfl, rfl⟩ := q
      split
      · assumption
      · exact List.mem_append_right _ (List.mem_singleton.mpr rfl)
    · rw [if_neg q] at z
      have := h.all a b z
      split
      · exact this
      · exact List.mem_append_left _ this
theorem DV.get {H : Hp} {kvs : List (List L2.Key × V)} {f : Co} (h : DV H kvs f) (i j : Nat) : (∃ v, valV kvs (k2 (i, j)) = some v ∧ NumV H v (f i j)) ∨ (valV kvs (k2 (i, j)) = none ∧ f i j = 0) := by
  cases e : valV kvs (k2 (i, j)) with
  | some v =>
    obtain ⟨p, e1, _, n⟩ := h.at_ _ (valV_some e)
    have : (i, j) = p := k2_inj e1
    subst this
    exact .inl ⟨v, rfl, n⟩
  | none =>
    refine .inr ⟨rfl, ?_⟩
    by_cases z : f i j = 0
    · exact z
    · exact absurd (h.all i j z) (valV_none e)
theorem num_zero (H : Hp) : NumV H (.int 0) 0 := .inl ⟨rfl, rfl⟩
theorem DV.getD {H : Hp} {kvs : List (List L2.Key × V)} {f : Co} (h : DV H kvs f) (i j : Nat) : NumV H ((valV kvs (k2 (i, j))).getD (.int 0)) (f i j) := by
  rcases h.get i j with ⟨v, e, n⟩ | ⟨e, z⟩
  · rw [e]
    exact n
  · rw [e, z]
    exact num_zero H
theorem DV.have_ {H : Hp} {kvs : List (List L2.Key × V)} {f : Co} (h : DV H kvs f) {i j : Nat} (m : k2 (i, j) ∈ kvs.map (·.1)) : ∃ v, valV kvs (k2 (i, j)) = some v ∧ NumV H v (f i j) := by
  rcases h.get i j with q | ⟨e, _⟩
  · exact q
  · exact absurd m (valV_none e)
/-! ### the keys, sorted -/
def dec (H : Hp) (y : Addr) : Nat × Nat := match H y with
  | some (.tup [.int a, .int b]) => (a.toNat, b.toNat)
  | _ => (0, 0)
theorem dec_at {H : Hp} {y : Addr} {p : Nat × Nat} (h : H y = some (.tup ((k2 p).map kV))) : dec H y = p := by
  unfold dec
  rw [h]
  show ((p.1 : Int).toNat, (p.2 : Int).toNat) = p
  simp
theorem DV.sorted {H : Hp} {kvs : List (List L2.Key × V)} {f : Co} (h : DV H kvs f) {bs ys : List Addr} (hb : IsKeys H kvs bs) (pm : ys.Perm bs)
    (st : ys.Pairwise fun x y => ∀ n m : List Int, H x = some (.tup (n.map V.int)) → H y = some (.tup (m.map V.int)) → TS.code 7 n ≤ TS.code 7 m) :
    (∀ y ∈ ys, H y = some (.tup [.int ((dec H y).1 : Int), .int ((dec H y).2 : Int)]) ∧ (dec H y).1 + (dec H y).2 ≤ 6 ∧ k2 (dec H y) ∈ kvs.map (·.1)) ∧ (ys.map (dec H)).filter (fun p => decide (f p.1 p.2 ≠ 0)) = nzs f := by
  have key : ∀ (l : List (List L2.Key × V)) (cs : List Addr), (∀ kv ∈ l, ∃ p : Nat × Nat, kv.1 = k2 p ∧ p.1 + p.2 ≤ 6) → Paired (fun p b => H b = some (.tup (p.1.map kV))) l cs →
      (∀ y ∈ cs, H y = some (.tup [.int ((dec H y).1 : Int), .int ((dec H y).2 : Int)]) ∧ (dec H y).1 + (dec H y).2 ≤ 6 ∧ k2 (dec H y) ∈ l.map (·.1)) ∧ (cs.map (dec H)).map k2 = l.map (·.1) := by
    intro l cs ha hp
    induction hp with
    | nil => exact ⟨fun y hy => by simp at hy, rfl⟩
    | @cons kv c l cs h1 _ ih =>
      obtain ⟨i1, i2⟩ := ih fun q hq => ha q (List.mem_cons_of_mem _ hq)
      obtain ⟨p, e, le⟩ := ha kv List.mem_cons_self
      rw [e] at h1
      have d := dec_at h1
      refine ⟨fun y hy => ?_, by rw [List.map_cons, List.map_cons, List.map_cons, i2, d, e]⟩
      rcases List.mem_cons.mp hy with rfl | hy
      · rw [d]
        exact ⟨h1, le, by rw [List.map_cons, e]; exact List.mem_cons_self⟩
      · obtain ⟨a, b, c⟩ := i1 y hy
        exact ⟨a, b, by rw [List.map_cons]; exact List.mem_cons_of_mem _ c⟩
  obtain ⟨kb, ke⟩ := key kvs bs (fun kv m => let ⟨p, a, b, _⟩ := h.at_ kv m; ⟨p, a, b⟩) hb
  have ky : ∀ y ∈ ys, H y = some (.tup [.int ((dec H y).1 : Int), .int ((dec H y).2 : Int)]) ∧ (dec H y).1 + (dec H y).2 ≤ 6 ∧ k2 (dec H y) ∈ kvs.map (·.1) := fun y hy => kb y (pm.mem_iff.mp hy)
  refine ⟨ky, ?_⟩
  have pm2 : (ys.map (dec H)).Perm (bs.map (dec H)) := pm.map _
  have ndb : (bs.map (dec H)).Nodup := by
    have n := h.nd
    rw [← ke] at n
    refine List.Pairwise.imp ?_ (List.pairwise_map.mp n)
    intro a b n e
    exact n (congrArg k2 e)
  refine nzs_of h.lw (pm2.nodup_iff.mpr ndb) (fun z hz => ?_) ?_ fun i j z => ?_
  · obtain ⟨y, hy, rfl⟩ := List.mem_map.mp hz
    exact (ky y hy).2.1
  · rw [List.pairwise_map]
    refine List.Pairwise.imp_of_mem (fun {a b} ha hb h => ?_) st
    have q := h [((dec H a).1 : Int), ((dec H a).2 : Int)] [((dec H b).1 : Int), ((dec H b).2 : Int)] (ky a ha).1 (ky b hb).1
    simp only [TS.code, List.length_cons, List.length_nil] at q
    unfold cd
    omega
  · have m := h.all i j z
    rw [← ke] at m
    obtain ⟨p, hp, e⟩ := List.mem_map.mp m
    rw [← k2_inj e]
    exact pm2.mem_iff.mpr hp
end Kd

namespace Kd
open PySem PySem.Spec PyProof.Rows L2 Pk
/-! ### dict comprehensions over a list or a tuple -/
theorem dcT_lst {K : PySem.W.Frag} {a : Addr} {xs : List V} {g : TG} {tt : TT} {tk tv : TE} {vs : List Nat} {σ : L2.St} {H1 : Hp} {D : Addr} {Qd : Hp → Prop} (Pv : Nat → Hp → Prop) (h0 : Pv 0 (upd H1 D (.dT []))) (hl : ∀ i H, i ≤ xs.length → Pv i H → SqL K H a xs)
    (hs : ∀ i x H, xs[i]? = some x → Pv i H → dcTurn g tt tk tv vs σ D (Pv (i + 1)) x H) (hd : ∀ H, Pv xs.length H → Qd H) :
    ∃ W : Nat → Nat → Hp → Prop, (∃ m, W 0 m (upd H1 D (.dT []))) ∧ ∀ i m H, W i m H →
      ((Itl K a).stop i H ∧ Qd H) ∨ ((Itl K a).go i H ∧ ∃ Nx : Hp → Prop, (∀ H', Nx H' → ∃ m', m' < m ∧ W (i + 1) m' H') ∧ ∀ x H', (Itl K a).yld i H x H' → dcTurn g tt tk tv vs σ D Nx x H') := by
  refine ⟨fun i m H => i + m = xs.length ∧ Pv i H, ⟨xs.length, Nat.zero_add _, h0⟩, fun i m H ⟨e, p⟩ => ?_⟩
  have q := hl i H (by omega) p
  cases m with
  | zero =>
    obtain rfl : i = xs.length := by omega
    exact .inl ⟨⟨xs, q, Nat.le_refl _⟩, hd H p⟩
  | succ m =>
    have lt : i < xs.length := by omega
    have g1 : xs[i]? = some xs[i] := List.getElem?_eq_getElem lt
    exact .inr ⟨⟨xs, xs[i], q, g1⟩, Pv (i + 1), fun H' p' => ⟨m, by omega, by omega, p'⟩, fun x H' ⟨eH, y⟩ => by subst eH; exact hs i x _ (y xs q) p⟩
theorem dc_seq {K : PySem.W.Frag} {tl : TE} {a : Addr} {xs : List V} {g : TG} {tt : TT} {tk tv : TE} {vs : List Nat} {σ : L2.St} {H1 : Hp} {Q : VK} (ha : SeqOr H1 a xs) (ht : ∀ R : V → Hp → Prop, R (.ref a) H1 → tl σ H1 R)
    (Pv : Addr → Nat → Hp → Prop) (h0 : ∀ D, H1 D = none → Pv D 0 (upd H1 D (.dT []))) (hl : ∀ D i H, H1 D = none → Pv D i H → Same H1 H)
    (hs : ∀ D i x H, H1 D = none → xs[i]? = some x → Pv D i H → dcTurn g tt tk tv vs σ D (Pv D (i + 1)) x H) (hd : ∀ D H, H1 D = none → Pv D xs.length H → Q (.ref D) H) : tDcT (iBoth (iList K tl) (iTup K tl)) g tt tk tv vs σ H1 Q := by
  rcases ha with ha | ha
  · refine .inr (ht _ ⟨a, rfl, ⟨xs, tupAt ha⟩, fun D nD => ?_⟩)
    exact dcT_tup (K := K) (xs := xs) (Pv D) (h0 D nD) (fun i H _ p => tupAt (hl D i H nD p _ _ ha)) (fun i x H e p => hs D i x H nD e p) fun H p => hd D H nD p
  · refine .inl (ht _ ⟨a, rfl, ⟨xs, lstAt ha⟩, fun D nD => ?_⟩)
    exact dcT_lst (K := K) (xs := xs) (Pv D) (h0 D nD) (fun i H _ p => lstAt (hl D i H nD p _ _ ha)) (fun i x H e p => hs D i x H nD e p) fun H p => hd D H nD p
/-- a list of what the turns give, from a list that is made -/
theorem lc_lstE {K : PySem.W.Frag} {tl : TE} {g : TG} {tt : TT} {te : TE} {vs : List Nat} {σ : L2.St} {H1 : Hp} {Q : VK} {Pr : List V → Hp → Prop} (ht : ∀ R : V → Hp → Prop, (∀ a xs H2, Same H1 H2 → H2 a = some (.lst xs) → Pr xs H2 → R (.ref a) H2) → tl σ H1 R)
    (Pv : List V → Hp → Addr → Nat → Hp → Prop) (h0 : ∀ xs H2 D, Same H1 H2 → Pr xs H2 → H2 D = none → Pv xs H2 D 0 (upd H2 D (.lst []))) (hl : ∀ xs H2 D i H, H2 D = none → Pv xs H2 D i H → Same H2 H)
    (hs : ∀ xs H2 D i x H, Same H1 H2 → Pr xs H2 → H2 D = none → xs[i]? = some x → Pv xs H2 D i H → g x (wipe σ vs) H fun σ2 H2' => wipe σ2 vs = wipe σ vs ∧ tt σ2 H2' fun b H3 =>
      if b = true then te σ2 H3 fun y H4 => ∃ acc, H4 D = some (.lst acc) ∧ acc.length < sizeLine ∧ Pv xs H2 D (i + 1) (upd H4 D (.lst (acc ++ [y]))) else Pv xs H2 D (i + 1) H3)
    (hd : ∀ xs H2 D H, Same H1 H2 → Pr xs H2 → H2 D = none → Pv xs H2 D xs.length H → Q (.ref D) H) : tLc (iList K tl) g tt te vs σ H1 Q :=
  ht _ fun a xs H2 s ha pr => ⟨a, rfl, ⟨xs, lstAt ha⟩, fun D nD => lc_list (K := K) (xs := xs) (Pv xs H2 D) (h0 xs H2 D s pr nD) (fun i H _ p => lstAt (hl xs H2 D i H nD p _ _ ha)) (fun i x H e p => hs xs H2 D i x H s pr nD e p) fun H p => hd xs H2 D H s pr nD p⟩
theorem DV.nil0 (H : Hp) : DV H [] (co []) := ⟨List.nodup_nil, fun kv m => by simp at m, fun i j z => absurd (co_nil i j) z⟩
theorem tv_get {H : Hp} {us : List V} {ts : List Pk.Tm} (h : TermsV H us ts) {i : Nat} {x : V} (e : us[i]? = some x) : ∃ t, ts[i]? = some t ∧ TermV H x t := L2.paired_get h e
/-- over the keys of a locked dict -/
theorem lc_keysT {d : Addr} {o : Obj} {kvs : List (List L2.Key × V)} {g : TG} {tt : TT} {te : TE} {vs : List Nat} {σ : L2.St} {H1 : Hp} {D : Addr} {Qd : Hp → Prop} (Pv : Nat → Hp → Prop) (h0 : Pv 0 (upd H1 D (.lst []))) (hl : ∀ i H, Pv i H → H d = some (.frz o (.dT kvs)))
    (hs : ∀ i k v q H, kvs[i]? = some (k, v) → H q = some (.tup (k.map kV)) → Pv i H → g (.ref q) (wipe σ vs) H fun σ2 H2' => wipe σ2 vs = wipe σ vs ∧ tt σ2 H2' fun b H3 =>
      if b = true then te σ2 H3 fun y H4 => ∃ acc, H4 D = some (.lst acc) ∧ acc.length < sizeLine ∧ Pv (i + 1) (upd H4 D (.lst (acc ++ [y]))) else Pv (i + 1) H3) (hd : ∀ H, Pv kvs.length H → Qd H) :
    ∃ W : Nat → Nat → Hp → Prop, (∃ m, W 0 m (upd H1 D (.lst []))) ∧ ∀ i m H, W i m H →
      ((Itkt d o kvs).stop i H ∧ Qd H) ∨ ((Itkt d o kvs).go i H ∧ ∃ Nx : Hp → Prop, (∀ H', Nx H' → ∃ m', m' < m ∧ W (i + 1) m' H') ∧ ∀ x H', (Itkt d o kvs).yld i H x H' → g x (wipe σ vs) H' fun σ2 H2' => wipe σ2 vs = wipe σ vs ∧ tt σ2 H2' fun b H3 =>
        if b = true then te σ2 H3 fun y H4 => ∃ acc, H4 D = some (.lst acc) ∧ acc.length < sizeLine ∧ Nx (upd H4 D (.lst (acc ++ [y]))) else Nx H3) := by
  refine ⟨fun i m H => i + m = kvs.length ∧ Pv i H, ⟨kvs.length, Nat.zero_add _, h0⟩, fun i m H ⟨e, p⟩ => ?_⟩
  cases m with
  | zero =>
    obtain rfl : i = kvs.length := by omega
    exact .inl ⟨⟨hl _ _ p, Nat.le_refl _⟩, hd H p⟩
  | succ m =>
    exact .inr ⟨⟨hl _ _ p, by omega⟩, Pv (i + 1), fun H' p' => ⟨m, by omega, by omega, p'⟩, fun x H' ⟨eH, k, v, q, e1, e2, e3⟩ => by subst eH e2; exact hs i k v q _ e1 e3 p⟩
theorem top1_mx (l : List Nat) : top1 (l.map fun n : Nat => (n : Int)) 0 = ((mx l : Nat) : Int) := by
  cases l with
  | nil => rfl
  | cons a l =>
    have e : mx (a :: l) = max a (mx l) := rfl
    rw [e]
    exact top_mx l a
theorem num_notD {H : Hp} {D : Addr} {kvs : List (List L2.Key × V)} (h : H D = some (.dT kvs)) : NoT H D := fun xs z => by rw [h] at z; cases z
theorem lst_notD {H : Hp} {D : Addr} {xs : List V} (h : H D = some (.lst xs)) : NoT H D := fun ys z => by rw [h] at z; cases z
structure TsOk (ts : List Pk.Tm) : Prop where
  nd : (ts.map pr).Nodup
  lo : ∀ t ∈ ts, t.1 + t.2.1 ≤ 6
  nz : ∀ t ∈ ts, t.2.2 ≠ 0
theorem TsOk.len {ts : List Pk.Tm} (h : TsOk ts) : ts.length ≤ 28 := by
  have := low_len h.nd fun z hz => by
    obtain ⟨t, ht, rfl⟩ := List.mem_map.mp hz
    exact h.lo t ht
  rw [List.length_map] at this
  exact this
theorem dgn_co {ts : List Pk.Tm} (h : TsOk ts) : dgn (co ts) = mx (ts.map fun t => t.1 + t.2.1) := by
  unfold dgn
  refine mx_congr fun n => ?_
  have e : (terms (co ts)).map (fun t => t.1 + t.2.1) = (nzs (co ts)).map fun p => p.1 + p.2 := by rw [terms_nzs, List.map_map]; rfl
  have lw : Lw (co ts) := lw_co h.lo
  rw [e]
  constructor
  · intro m
    obtain ⟨p, hp, rfl⟩ := List.mem_map.mp m
    have z := (mem_nzs lw).mp hp
    have m2 : (p.1, p.2) ∈ ts.map pr := Classical.byContradiction fun c => z (co_no_place _ _ _ c)
    obtain ⟨t, ht, et⟩ := List.mem_map.mp m2
    refine List.mem_map.mpr ⟨t, ht, ?_⟩
    unfold pr at et
    injection et with e1 e2
    rw [e1, e2]
  · intro m
    obtain ⟨t, ht, rfl⟩ := List.mem_map.mp m
    refine List.mem_map.mpr ⟨(t.1, t.2.1), (mem_nzs lw).mpr ?_, rfl⟩
    show co ts t.1 t.2.1 ≠ 0
    rw [co_one_place h.nd ht]
    exact h.nz t ht
theorem u1 {k : Nat} {A : Around} (r : Room k A) : A.units + 1 < cLine := by have := r.un; omega
theorem l28 {n : Nat} (h : n ≤ 28) : n ≤ sizeLine := sz (by omega)
theorem l28' {n : Nat} (h : n < 29) : n < sizeLine := Nat.lt_of_lt_of_le h (sz (by omega))
/-- an instance of the class, its terms, its degree -/
def PolyO (C : Addr) (H : Hp) (x : Addr) (f : Co) : Prop := ∃ dx q us, H x = some (.ins C dx [("terms", .ref q), ("degree", .int ((dgn f : Nat) : Int))]) ∧ H q = some (.tup us) ∧ TermsV H us (terms f) ∧ Lw f
section
variable {P : Program} {w : World} {K : PySem.W.Frag} {mg : Str → Option Value} {base : Heap}
def spInit (C : Addr) : Sp := fun vs H Q _ => ∃ x dx q us ts, vs = [.ref x, .ref q] ∧ H x = some (.ins C dx []) ∧ SeqOr H q us ∧ TermsV H us ts ∧ TsOk ts ∧
  ∀ H' d t us', Kp x H H' → H' x = some (.ins C d [("terms", .ref t), ("degree", .int ((dgn (co ts) : Nat) : Int))]) → H' t = some (.tup us') → TermsV H' us' (terms (co ts)) → Q .non H'
theorem ok_init {C : Addr} (cls : Cls K C) (nt : NoAttr K C "terms") (ndg : NoAttr K C "degree")
    (gl : mg "len" = none) (ga : mg "all" = none) (gs : mg "sorted" = none) (gt : mg "tuple" = none) (gm : mg "max" = none)
    (O1 : Okk P w K mg base "is_list" 1 ["value"] spIsList) (O2 : Okk P w K mg base "is_term" 4 ["value"] spIsTerm) (O3 : Okk P w K mg base "kept" 1 ["number"] spKept) :
    ∀ f fd, FunD K "__init__" "Poly.__init__" (defArgs (inClass (top 31) 0)) (defBody (inClass (top 31) 0)) (defScope (inClass (top 31) 0)) [] [] f fd → FnOk P w K mg base CX0 5 f fd ["self", "terms"] (spInit C) := by
  intro f fd F
  refine F.ok sc_Poly_init (fun vs H Q E h => ?_) (fun cdv A outer s H vs Q E hr h => ?_)
  · obtain ⟨x, dx, q, us, ts, rfl, _⟩ := h
    rfl
  · obtain ⟨x, dx, q, us, ts, rfl, hx, hq, htv, tok, go⟩ := h
    have nd := sc_Poly_init.nd
    have nmi := fun (i : Nat) => i
    refine ⟨_, PSs.nox (pss_cons (ps_if (PW.pt (pw_or (pt_not (pt_val (pe_cl O1 hr (pa_cons (pv 1) pa_nil)))) (pw_or1 (pt_not (pt_val (pe_callB (cr_all rfl) (by rfl) ga (by decide +kernel) (pa_cons (pe_lc (own := [("term", 6)]) (g := gName 6) (tt := tYes) rfl nd (pi_seq (pv 1)) (blkOk_by (N := ["self", "terms", "found", "i", "j", "number", "term"]) (sc := defScope (inClass (top 31) 0)) (by decide +kernel))
          (fun _ _ _ _ _ => pg_name (i := 6) nd rfl (Or.inl rfl)) (fun _ _ _ _ _ => pts_nil) (fun _ _ _ _ _ => pe_cl O2 hr (pa_cons (pv 6) pa_nil))) pa_nil))))))) pss_never pss_nil)
      (pss_cons (ps_set (i := 2) nd rfl (Or.inr rfl) (pe_dcT (own := [("i", 3), ("j", 4), ("number", 5)]) (g := gTup K 3 (gCons (gName 3) (gCons (gName 4) (gCons (gName 5) gNil)))) (tt := tYes) hr.units0 rfl nd (pi_seq (pv 1)) (blkOk_by (N := ["self", "terms", "found", "i", "j", "number", "term"]) (sc := defScope (inClass (top 31) 0)) (by decide +kernel))
          (fun _ _ _ _ _ => pg_tup rfl (pgs_cons (pg_name (i := 3) nd rfl (Or.inl rfl)) (pgs_cons (pg_name (i := 4) nd rfl (Or.inl rfl)) (pgs_cons (pg_name (i := 5) nd rfl (Or.inl rfl)) pgs_nil)))) (fun _ _ _ _ _ => pts_nil)
          (fun _ _ _ _ _ => pe_tup (pa_cons (pv 3) (pa_cons (pv 4) pa_nil))) (fun _ _ _ _ _ => pe_cl O3 hr (pa_cons (pv 5) pa_nil))))
      (pss_cons (ps_if (pt_cmpR op_ne (pe_callB call_len_dT (by rfl) gl PySem.boot_len (pa_cons (pv 2) pa_nil)) (pe_callB call_len_seq (by rfl) gl PySem.boot_len (pa_cons (pv 1) pa_nil)) (nomark _)) pss_never pss_nil)
      (pss_cons (ps_fld (f := "terms") (pv 0) (pe_callTy call_tuple_of (by rfl) gt (by decide +kernel) (pa_cons (pe_lc (own := [("i", 3), ("j", 4)]) (g := gTup K 2 (gCons (gName 3) (gCons (gName 4) gNil))) (tt := tYes) rfl nd (pi_list (pe_callB (cr_sortDT rfl (d := 2) (B := 7) (by decide)) (by rfl) gs (by decide +kernel) (pa_cons (pv 2) pa_nil))) (blkOk_by (N := ["self", "terms", "found", "i", "j", "number", "term"]) (sc := defScope (inClass (top 31) 0)) (by decide +kernel))
          (fun _ _ _ _ _ => pg_tup rfl (pgs_cons (pg_name (i := 3) nd rfl (Or.inl rfl)) (pgs_cons (pg_name (i := 4) nd rfl (Or.inl rfl)) pgs_nil))) (fun _ _ _ _ _ => pts_nil)
          (fun _ _ _ _ _ => pe_tup (pa_cons (pv 3) (pa_cons (pv 4) (pa_cons (pe_dget (u1 hr) (pv 2) (pe_tup (pa_cons (pv 3) (pa_cons (pv 4) pa_nil))) (fun _ _ => rfl)) pa_nil))))) pa_nil)) (by rfl))
      (pss_one (ps_fld (f := "degree") (pv 0) (pe_callBK (cr_maxDef rfl hr.units) (by rfl) gm (by decide +kernel) (pa_cons (pe_lock (pe_lc (own := [("i", 3), ("j", 4)]) (g := gTup K 2 (gCons (gName 3) (gCons (gName 4) gNil))) (tt := tYes) rfl nd (pi_keys (pv 2)) (blkOk_by (N := ["self", "terms", "found", "i", "j", "number", "term"]) (sc := defScope (inClass (top 31) 0)) (by decide +kernel))
          (fun _ _ _ _ _ => pg_tup rfl (pgs_cons (pg_name (i := 3) nd rfl (Or.inl rfl)) (pgs_cons (pg_name (i := 4) nd rfl (Or.inl rfl)) pgs_nil))) (fun _ _ _ _ _ => pts_nil)
          (fun _ _ _ _ _ => pe_op op_add (pv 3) (pv 4)))) pa_nil) (pk_cons pe_int pk_nil)) (by rfl))))))), ?_⟩
    refine ⟨_, rfl, _, true, rfl, hq.intOr, fun H1 s1 => ⟨true, rfl, iteF ?_⟩⟩
    dsimp only [tNot, tB, tCB, tCons]
    have hq1 := hq.same s1
    have htv1 := htv.same s1
    have hx1 := s1 _ _ hx
    refine lc_seq (xs := us) hq1 (fun R r => ⟨_, rfl, r⟩) (fun D i H' => Same H1 H' ∧ H' D = some (.lst ((List.replicate i true).map V.bl))) (fun D nD => ⟨same_upd nD, upd_same⟩) (fun D i H' nD p => p.1) (fun D i z H' nD e pv => ?_) (fun D H2 nD pv => ?_)
    · obtain ⟨t, et, ht⟩ := tv_get htv1 e
      have tm := List.mem_of_getElem? et
      have lt : i < ts.length := (List.getElem?_eq_some_iff.mp et).1
      have tl := tok.len
      refine ⟨rfl, ?_⟩
      refine ⟨_, rfl, z, t, rfl, ht.same pv.1, tok.lo t tm, tok.nz t tm, fun H3 s3 => ⟨_, s3 _ _ pv.2, ?_, sov (pv.1.trans s3) nD, ?_⟩⟩
      · rw [List.length_map, List.length_replicate]
        exact l28' (by omega)
      · rw [upd_same, List.replicate_succ', List.map_append]
        rfl
    refine ⟨D, List.replicate us.length true, rfl, lstAt pv.2, _, rfl, ?_⟩
    rw [show (List.replicate us.length true).all id = true by simp]
    refine iteF ?_
    have s2' := s2
    have s3' := s3
    have s2 := s1.trans pv.1
    have hq2 := hq.same s2
    have htv2 := htv.same s2
    have hx2 := s2 _ _ hx
    clear hq1 htv1 hx1 pv nD
    dsimp only [tNext, tSeq, tAsg]
    refine dc_seq (xs := us) hq2 (fun R r => ⟨_, rfl, r⟩) (fun D i H' => Same H2 H' ∧ ∃ kvs, H' D = some (.dT kvs) ∧ DV H' kvs (co (ts.take i)) ∧ kvs.map (·.1) = (ts.take i).map fun t => k2 (pr t))
      (fun D nD => ⟨same_upd nD, [], upd_same, DV.nil0 _, by simp⟩) (fun D i H' nD p => p.1) (fun D i z H' nD e pv => ?_) (fun D H3 nD pv => ?_)
    · obtain ⟨sm, kvs, hD, dv, ky⟩ := pv
      obtain ⟨t, et, ht⟩ := tv_get htv2 e
      have tm := List.mem_of_getElem? et
      have lt : i < ts.length := (List.getElem?_eq_some_iff.mp et).1
      have tl := tok.len
      obtain ⟨c, n, rfl, hc, hn⟩ := ht.same sm
      refine ⟨c, _, rfl, tupAt hc, rfl, _, _, rfl, _, _, rfl, _, _, rfl, rfl, rfl, ?_⟩
      refine ⟨_, rfl, _, rfl, s2', fun p np => ⟨_, rfl, n, t.2.2, rfl, hn.same (same_upd np), fun H5 s5 => ?_⟩⟩
      have s6 : Same H' H5 := fun b o eb => s5 _ _ (same_upd np _ _ eb)
      have tk : ts.take (i + 1) = ts.take i ++ [t] := by rw [List.take_add_one, et]; rfl
      have new : pr t ∉ (ts.take i).map pr := fun m => by
        have nd2 := tok.nd
        rw [← List.take_append_drop (i + 1) ts, tk, List.map_append, List.map_append] at nd2
        have := (List.nodup_append.mp (List.nodup_append.mp nd2).1).2.2 _ m _ (List.mem_singleton.mpr rfl)
        exact this rfl
      have dv' : DV H5 (putK kvs (k2 (t.1, t.2.1)) n) (co (ts.take (i + 1))) := by
        rw [tk, ← setC_new new]
        exact (dv.same s6).put (tok.lo t tm) (hn.same s6)
      have hD5 := s6 _ _ hD
      refine ⟨kvs, k2 (t.1, t.2.1), p, rfl, s5 _ _ upd_same, hD5, l28' (by have := dv.len; omega), sov (sm.trans s6) nD, _, upd_same, dv'.kp (num_notD hD5) (Kp.upd _), ?_⟩
      rw [putK_keys, tk, ky, if_neg, List.map_append]
      · rfl
      · intro m
        obtain ⟨u, hu, eu⟩ := List.mem_map.mp m
        exact new (List.mem_map.mpr ⟨u, hu, k2_inj eu⟩)
    · obtain ⟨sm, kvs, hD, dv, ky⟩ := pv
      have ln : us.length = ts.length := Paired.length htv2
      have tl := tok.len
      rw [ln, List.take_length] at dv ky
      have kl : kvs.length = us.length := by
        rw [ln, ← List.length_map (f := (·.1)) (as := kvs), ky, List.length_map]
      have s3 := s2.trans sm
      have noD : H D = none := s2.free nD
      refine ⟨_, rfl, D, kvs, rfl, hD, _, rfl, q, us, rfl, (hq2.same sm).len, rfl, _, rfl, iteNS (by rw [kl]) ?_⟩
      dsimp only [tNext, tSeq, sFld, tCB, tCons]
      have full : ∀ {p : Nat × Nat}, k2 p ∈ kvs.map (·.1) → co ts p.1 p.2 ≠ 0 := fun {p} m => by
        rw [ky] at m
        obtain ⟨u, hu, eu⟩ := List.mem_map.mp m
        have e := k2_inj eu
        subst e
        show co ts u.1 u.2.1 ≠ 0
        rw [co_one_place tok.nd hu]
        exact tok.nz u hu
      refine lc_lstE (Pr := fun xs H4 => ∃ ys : List Addr, xs = ys.map V.ref ∧ (∀ y ∈ ys, H4 y = some (.tup [.int ((dec H4 y).1 : Int), .int ((dec H4 y).2 : Int)]) ∧ k2 (dec H4 y) ∈ kvs.map (·.1)) ∧ ys.map (dec H4) = nzs (co ts))
        (fun R go => ⟨_, rfl, D, kvs, rfl, .inl hD, by have := dv.len; omega, fun kv m => ?_, fun bs ys p hb pm st np => go p _ _ (same_upd np) upd_same ⟨ys, rfl, ?_⟩⟩)
        (fun xs H4 L i H5 => Same H4 H5 ∧ ∃ acc, H5 L = some (.lst acc) ∧ acc.length = i ∧ TermsV H5 acc (((nzs (co ts)).take i).map (tm (co ts)))) (fun xs H4 L s4 pr nL => ⟨same_upd nL, [], upd_same, rfl, .nil⟩) (fun xs H4 L i H5 nL p => p.1) (fun xs H4 L i z H5 s4 pr nL e pv => ?_) (fun xs H4 L H5 s4 pr nL pv => ?_)
      · obtain ⟨p, e, le, _⟩ := dv.at_ kv m
        refine ⟨[(p.1 : Int), (p.2 : Int)], e, rfl, fun m hm => ?_⟩
        rcases List.mem_cons.mp hm with rfl | hm
        · omega
        · rw [List.mem_singleton.mp hm]
          omega
      · obtain ⟨h1, h2⟩ := dv.sorted hb pm st
        have same_dec : ∀ y ∈ ys, dec (upd H3 p (.lst (ys.map V.ref))) y = dec H3 y := fun y hy => by
          unfold dec
          rw [upd_ne (ne_of_none (h1 y hy).1 np)]
        refine ⟨fun y hy => ?_, ?_⟩
        · rw [same_dec y hy]
          exact ⟨same_upd np _ _ (h1 y hy).1, (h1 y hy).2.2⟩
        · rw [List.map_congr_left same_dec, ← h2]
          symm
          refine List.filter_eq_self.mpr fun z hz => ?_
          obtain ⟨y, hy, rfl⟩ := List.mem_map.mp hz
          exact decide_eq_true (full (h1 y hy).2.2)
      · obtain ⟨sm5, acc, hL, la, tv⟩ := pv
        obtain ⟨ys, rfl, hy, ey⟩ := pr
        rw [List.getElem?_map] at e
        obtain ⟨y, ey2, rfl⟩ := Option.map_eq_some_iff.mp e
        have ym := List.mem_of_getElem? ey2
        obtain ⟨hy1, hy2⟩ := hy y ym
        obtain ⟨v, gv, hv⟩ := dv.have_ (i := (dec H4 y).1) (j := (dec H4 y).2) hy2
        have hD5 := sm5 _ _ (s4 _ _ hD)
        have nz28 := nzs_len (co ts)
        have ilt : i < (nzs (co ts)).length := by
          rw [← ey, List.length_map]
          exact (List.getElem?_eq_some_iff.mp ey2).1
        refine ⟨y, _, rfl, tupAt (sm5 _ _ hy1), rfl, _, _, rfl, _, _, rfl, rfl, rfl, ?_⟩
        refine ⟨_, rfl, _, rfl, _, rfl, _, rfl, _, rfl, s2', fun p np => ⟨D, v, rfl, ?_, s3', fun l nl => ?_⟩⟩
        · rw [← gv]
          exact DGet.t (same_upd np _ _ hD5) upd_same
        · have s7 : Same H5 (upd (upd H5 p (.tup [.int ((dec H4 y).1 : Int), .int ((dec H4 y).2 : Int)])) l (.tup [.int ((dec H4 y).1 : Int), .int ((dec H4 y).2 : Int), v])) := Same.upd (same_upd np) nl
          have hL7 := s7 _ _ hL
          refine ⟨acc, hL7, l28' (by omega), sov (sm5.trans s7) nL, _, upd_same, by rw [List.length_append, la]; rfl, ?_⟩
          have tk : (nzs (co ts)).take (i + 1) = (nzs (co ts)).take i ++ [dec H4 y] := by
            rw [List.take_add_one, ← ey, List.getElem?_map, ey2]
            rfl
          rw [tk, List.map_append]
          refine Paired.snoc ((tv.same s7).kp (lst_notD hL7) (Kp.upd _)) ?_
          refine TermV.kp (D := L) ⟨l, v, rfl, upd_same, ?_⟩ (lst_notD hL7) (Kp.upd _)
          exact (hv.same (s4.trans sm5)).same s7
      · obtain ⟨sm5, acc, hL, la, tv⟩ := pv
        obtain ⟨ys, rfl, hy, ey⟩ := pr
        rw [List.length_map, ← List.length_map (f := dec H4) (as := ys), ey, List.take_length, ← terms_nzs] at tv
        refine ⟨L, acc, rfl, .inl ⟨lstAt hL, fun l nl => ?_⟩⟩
        have s5 : Same H3 (upd H5 l (.tup acc)) := Same.upd (s4.trans sm5) nl
        have tv5 : TermsV (upd H5 l (.tup acc)) acc (terms (co ts)) := tv.same (same_upd nl)
        have hl5 : (upd H5 l (.tup acc)) l = some (.tup acc) := upd_same
        generalize upd H5 l (.tup acc) = H6 at s5 tv5 hl5
        have hx6 := s5 _ _ (sm _ _ hx2)
        have hD6 := s5 _ _ hD
        have xl : x ≠ l := fun z => by rw [z, hl5] at hx6; cases hx6
        have xD : x ≠ D := fun z => by rw [z, hD6] at hx6; cases hx6
        have notx : NoT H6 x := fun xs z => by rw [hx6] at z; cases z
        refine ⟨_, rfl, x, C, dx, [], rfl, hx6, cls, nt, by decide, ?_⟩
        have kx : Kp x H6 (upd H6 x (.ins C dx [("terms", .ref l)])) := Kp.upd _
        show tCKw _ _ _ _ (upd H6 x (.ins C dx [("terms", .ref l)])) _
        have hx7 : (upd H6 x (.ins C dx [("terms", .ref l)])) x = some (.ins C dx [("terms", .ref l)]) := upd_same
        have tv7 := tv5.kp notx kx
        have hl7 := kx _ _ xl.symm hl5
        have hD7 := kx _ _ xD.symm hD6
        generalize upd H6 x (.ins C dx [("terms", .ref l)]) = H7 at kx hx7 tv7 hl7 hD7
        dsimp only [tCKw, tCons, tLockE]
        refine ⟨D, .dT kvs, hD7, True.intro, fun od => ?_⟩
        have kD : Kp D H7 (upd H7 D (.frz od (.dT kvs))) := Kp.upd _
        have hx8 := kD _ _ xD hx7
        have hl8 := kD _ _ (fun z => by rw [z, hD7] at hl7; cases hl7) hl7
        have tv8 := tv7.kp (num_notD hD7) kD
        have hD8 : (upd H7 D (.frz od (.dT kvs))) D = some (.frz od (.dT kvs)) := upd_same
        refine ⟨_, rfl, D, od, rfl, .inr ⟨kvs, hD8, fun M nM => ?_⟩⟩
        generalize upd H7 D (.frz od (.dT kvs)) = H8 at kD hx8 hl8 tv8 hD8 nM
        have hM : (co ts) = co ts := rfl
        refine lc_keysT (fun i H9 => Same H8 H9 ∧ H9 M = some (.lst (((ts.take i).map fun t => ((t.1 + t.2.1 : Nat) : Int)).map V.int))) ⟨same_upd nM, by rw [upd_same]; rfl⟩ (fun i H9 p => p.1 _ _ hD8) (fun i k v y H9 e hy p => ?_) (fun H9 p => ?_)
        · have lt : i < ts.length := by rw [← ln, ← kl]; exact (List.getElem?_eq_some_iff.mp e).1
          have et : ts[i]? = some ts[i] := List.getElem?_eq_getElem lt
          have ek : k = k2 (pr ts[i]) := by
            have e1 : (kvs.map (·.1))[i]? = some k := by rw [List.getElem?_map, e]; rfl
            rw [ky, List.getElem?_map, et] at e1
            exact (Option.some.inj e1).symm
          subst ek
          refine ⟨y, _, rfl, tupAt hy, rfl, _, _, rfl, _, _, rfl, rfl, rfl, ?_⟩
          refine ⟨_, rfl, _, rfl, _, _, rfl, rfl, _, p.2, ?_, sov p.1 nM, ?_⟩
          · rw [List.length_map, List.length_map, List.length_take]
            exact l28' (by omega)
          · rw [upd_same, List.take_add_one, et, List.map_append, List.map_append]
            rfl
        · have hM9 : H9 M = some (.lst ((ts.map fun t => ((t.1 + t.2.1 : Nat) : Int)).map V.int)) := by
            rw [p.2, kl, ln, List.take_length]
          have hD9 := p.1 _ _ hD8
          have hx9 := p.1 _ _ hx8
          have hl9 := p.1 _ _ hl8
          have tv9 := tv8.same p.1
          refine ⟨hD9, ?_⟩
          have kD2 : Kp D H9 (upd H9 D (.dT kvs)) := Kp.upd _
          have nD9 : NoT H9 D := fun xs z => by rw [hD9] at z; cases z
          have hMD : M ≠ D := fun z => by rw [z, hD9] at hM9; cases hM9
          have hM10 := kD2 _ _ hMD hM9
          have hx10 := kD2 _ _ xD hx9
          have hl10 := kD2 _ _ (fun z => by rw [z, hD9] at hl9; cases hl9) hl9
          have tv10 := tv9.kp nD9 kD2
          have k10 : Kp x H (upd H9 D (.dT kvs)) := fun b o n eb => by
            have bD : b ≠ D := ne_of_none eb noD
            exact kD2 _ _ bD (p.1 _ _ (kD _ _ bD (kx _ _ n (s5 _ _ (s3 _ _ eb)))))
          generalize upd H9 D (.dT kvs) = H10 at hM10 hx10 hl10 tv10 k10
          refine ⟨M, _, 0, rfl, rfl, lstAt hM10, ?_⟩
          have e0 : (ts.map fun t => ((t.1 + t.2.1 : Nat) : Int)) = (ts.map fun t => t.1 + t.2.1).map fun n : Nat => (n : Int) := by
            rw [List.map_map]
            rfl
          rw [e0, top1_mx, ← dgn_co tok]
          refine ⟨_, rfl, x, C, dx, _, rfl, hx10, cls, ndg, (show 1 < 1000 by decide), ?_⟩
          have nx10 : NoT H10 x := fun xs z => by rw [hx10] at z; cases z
          exact go _ dx l acc (k10.trans (Kp.upd _)) upd_same (Kp.upd (D := x) _ _ _ xl.symm hl10) (tv10.kp nx10 (Kp.upd _))
end
end Kd

namespace Kd
open PySem PySem.Spec PyProof.Rows L2 Pk
/-! ### the class as the top has left it, what it makes -/
structure PolyC (P : Program) (w : World) (K : PySem.W.Frag) (mg : Str → Option Value) (base : Heap) (C : Addr) : Prop where
  make : ∃ f fd, Mk K C f ∧ FnOk P w K mg base CX0 5 f fd ["self", "terms"] (spInit C) ∧ Binds K fd ["self", "terms"] []
  gC : mg "Poly" = some (.ref C)
  cls : Cls K C
  nt : NoAttr K C "terms"
  nd : NoAttr K C "degree"
  hcl : PySem.W.findIn K (.ref C) "__class__" = some (some (.builtin "object.__class__"))
  hget : PySem.W.specialIn K (.builtin "object.__class__") "__get__" = some (some (.builtin "getset_descriptor.__get__"))
  htk : PySem.W.takesIn K (.builtin "object.__class__") = some true
  hmr : PySem.W.mroIn K C (.type "object") = some true
def PolyV (C : Addr) (H : Hp) (v : V) (f : Co) : Prop := ∃ x, v = .ref x ∧ PolyO C H x f
theorem PolyV.same {C : Addr} {H H' : Hp} {v : V} {f : Co} (h : PolyV C H v f) (s : Same H H') : PolyV C H' v f := by
  obtain ⟨x, e, dx, q, us, h1, h2, h3, h4⟩ := h
  exact ⟨x, e, dx, q, us, s _ _ h1, s _ _ h2, h3.same s, h4⟩
theorem PolyV.kp {C D : Addr} {H H' : Hp} {v : V} {f : Co} (h : PolyV C H v f) (n : NoT H D) (n2 : ∀ C' dx fs, H D ≠ some (.ins C' dx fs)) (k : Kp D H H') : PolyV C H' v f := by
  obtain ⟨x, e, dx, q, us, h1, h2, h3, h4⟩ := h
  exact ⟨x, e, dx, q, us, k _ _ (fun z => n2 _ _ _ (z ▸ h1)) h1, k _ _ (fun z => n _ (z ▸ h2)) h2, h3.kp n k, h4⟩
theorem PolyV.lw {C : Addr} {H : Hp} {v : V} {f : Co} (h : PolyV C H v f) : Lw f := by
  obtain ⟨x, e, dx, q, us, h1, h2, h3, h4⟩ := h
  exact h4
theorem mk_go {C : Addr} {H1 : Hp} {q : Addr} {us : List V} {ts : List Pk.Tm} {Q : VK} {E : XK} (hq : SeqOr H1 q us) (htv : TermsV H1 us ts) (tok : TsOk ts) (o : Out H1 Q fun v H' => PolyV C H' v (co ts)) :
    ∀ x dx, H1 x = none → H1 dx = none → dx ≠ x → spInit C (.ref x :: ([V.ref q] ++ [])) (upd (upd H1 dx (.own x)) x (.ins C dx [])) (fun v H2 => v = .non ∧ Q (.ref x) H2) E := fun x dx nx ndx ne => by
  have s : Same H1 (upd (upd H1 dx (.own x)) x (.ins C dx [])) := sov (sov (Same.refl H1) ndx) nx
  refine ⟨x, dx, q, us, ts, rfl, upd_same, hq.same s, htv.same s, tok, fun H' d t us' k hx ht tv => ⟨rfl, o _ _ (fun b u e => k b u (ne_of_none e nx) (s b u e)) ⟨x, rfl, d, t, us', hx, ht, tv, lw_co tok.lo⟩⟩⟩
/-- over the entries of a locked dict -/
theorem lc_itemsT {d : Addr} {o : Obj} {kvs : List (List L2.Key × V)} {g : TG} {tt : TT} {te : TE} {vs : List Nat} {σ : L2.St} {H1 : Hp} {D : Addr} {Qd : Hp → Prop} (Pv : Nat → Hp → Prop) (h0 : Pv 0 (upd H1 D (.lst []))) (hl : ∀ i H, Pv i H → H d = some (.frz o (.dT kvs)))
    (hs : ∀ i k v q T H, kvs[i]? = some (k, v) → H q = some (.tup (k.map kV)) → H T = none → Pv i H → g (.ref T) (wipe σ vs) (upd H T (.tup [.ref q, v])) fun σ2 H2' => wipe σ2 vs = wipe σ vs ∧ tt σ2 H2' fun b H3 =>
      if b = true then te σ2 H3 fun y H4 => ∃ acc, H4 D = some (.lst acc) ∧ acc.length < sizeLine ∧ Pv (i + 1) (upd H4 D (.lst (acc ++ [y]))) else Pv (i + 1) H3) (hd : ∀ H, Pv kvs.length H → Qd H) :
    ∃ W : Nat → Nat → Hp → Prop, (∃ m, W 0 m (upd H1 D (.lst []))) ∧ ∀ i m H, W i m H →
      ((ItiT d o kvs).stop i H ∧ Qd H) ∨ ((ItiT d o kvs).go i H ∧ ∃ Nx : Hp → Prop, (∀ H', Nx H' → ∃ m', m' < m ∧ W (i + 1) m' H') ∧ ∀ x H', (ItiT d o kvs).yld i H x H' → g x (wipe σ vs) H' fun σ2 H2' => wipe σ2 vs = wipe σ vs ∧ tt σ2 H2' fun b H3 =>
        if b = true then te σ2 H3 fun y H4 => ∃ acc, H4 D = some (.lst acc) ∧ acc.length < sizeLine ∧ Nx (upd H4 D (.lst (acc ++ [y]))) else Nx H3) := by
  refine ⟨fun i m H => i + m = kvs.length ∧ Pv i H, ⟨kvs.length, Nat.zero_add _, h0⟩, fun i m H ⟨e, p⟩ => ?_⟩
  cases m with
  | zero =>
    obtain rfl : i = kvs.length := by omega
    exact .inl ⟨⟨hl _ _ p, Nat.le_refl _⟩, hd H p⟩
  | succ m =>
    exact .inr ⟨⟨hl _ _ p, by omega⟩, Pv (i + 1), fun H' p' => ⟨m, by omega, by omega, p'⟩, fun x H' ⟨T, k, v, q, e1, e2, e3, e4, e5⟩ => by subst e5 e2; exact hs i k v q T _ e1 e3 e4 p⟩
section
variable {P : Program} {w : World} {K : PySem.W.Frag} {mg : Str → Option Value} {base : Heap} {C : Addr}
/-- the terms of a dict's entries -/
def dts (f : Co) (ps : List (Nat × Nat)) : List Pk.Tm := (ps.filter fun p => decide (f p.1 p.2 ≠ 0)).map (tm f)
theorem dts_pr (f : Co) (ps : List (Nat × Nat)) : (dts f ps).map pr = ps.filter fun p => decide (f p.1 p.2 ≠ 0) := by
  unfold dts
  rw [List.map_map]
  conv => rhs; rw [← List.map_id (ps.filter _)]
  exact List.map_congr_left fun p _ => rfl
theorem dts_ok {f : Co} {ps : List (Nat × Nat)} (nd : ps.Nodup) (lo : ∀ p ∈ ps, p.1 + p.2 ≤ 6) : TsOk (dts f ps) := by
  refine ⟨by rw [dts_pr]; exact List.Pairwise.filter _ nd, fun t ht => ?_, fun t ht => ?_⟩
  · obtain ⟨p, hp, rfl⟩ := List.mem_map.mp ht
    exact lo p (List.mem_filter.mp hp).1
  · obtain ⟨p, hp, rfl⟩ := List.mem_map.mp ht
    exact of_decide_eq_true (List.mem_filter.mp hp).2
theorem dts_co {f : Co} {ps : List (Nat × Nat)} (nd : ps.Nodup) (lo : ∀ p ∈ ps, p.1 + p.2 ≤ 6) (all : ∀ i j, f i j ≠ 0 → (i, j) ∈ ps) : co (dts f ps) = f := by
  funext i j
  by_cases z : f i j = 0
  · rw [co_no_place, z]
    rw [dts_pr]
    intro m
    exact of_decide_eq_true (List.mem_filter.mp m).2 z
  · have m : tm f (i, j) ∈ dts f ps := List.mem_map.mpr ⟨(i, j), List.mem_filter.mpr ⟨all i j z, decide_eq_true z⟩, rfl⟩
    exact co_one_place (dts_ok nd lo).nd m
def spOfPowers (C : Addr) : Sp := fun vs H Q _ => ∃ D kvs f, vs = [.ref D] ∧ H D = some (.dT kvs) ∧ DV H kvs f ∧ Out H Q fun v H' => PolyV C H' v f
theorem ok_of_powers (R : Row K mg "of_powers" (top 34) ["found"]) (PC : PolyC P w K mg base C) : Okk P w K mg base "of_powers" 7 ["found"] (spOfPowers C) := by
  obtain ⟨fI, fdI, M, FI, bI⟩ := PC.make
  refine okk R sc_of_powers (fun vs H Q E h => ?_) (fun f cdv A outer s H vs Q E hr h => ?_)
  · obtain ⟨D, kvs, f, rfl, _⟩ := h
    rfl
  · obtain ⟨D, kvs, f, rfl, hD, dv, q⟩ := h
    have nd := sc_of_powers.nd
    refine ⟨_, pss_one (ps_ret (pe_make M FI hr (by rfl) PC.gC bI .nil pass0 (pa_cons (pe_lock (pe_lc (own := [("number", 1), ("i", 2), ("j", 3)]) (g := gTup K 2 (gCons (gTup K 2 (gCons (gName 2) (gCons (gName 3) gNil))) (gCons (gName 1) gNil))) (tt := tTest (tOp (rNeD K) (tVar 1) (tC (V.int 0)))) rfl nd (pi_itemsT (pv 0)) (blkOk_by (N := ["found", "number", "i", "j"]) (sc := defScope (top 34)) (by decide +kernel))
      (fun _ _ _ _ _ => pg_tup rfl (pgs_cons (pg_tup rfl (pgs_cons (pg_name (i := 2) nd rfl (Or.inl rfl)) (pgs_cons (pg_name (i := 3) nd rfl (Or.inl rfl)) pgs_nil))) (pgs_cons (pg_name (i := 1) nd rfl (Or.inl rfl)) pgs_nil)))
      (fun _ _ _ _ _ => pts_one (pt_cmpR (op_neD hr.units) (pv 1) pe_int (nomark _))) (fun _ _ _ _ _ => pe_tup (pa_cons (pv 2) (pa_cons (pv 3) (pa_cons (pv 1) pa_nil)))))) pa_nil))), ?_⟩
    obtain ⟨ps, ek, pn, plo, pall⟩ := dv.places
    have kl : kvs.length = ps.length := by rw [← List.length_map (f := (·.1)) (as := kvs), ek, List.length_map]
    have p28 := low_len pn plo
    dsimp only [tRet, tMake, tCons, tLockE]
    refine ⟨D, .dT kvs, hD, True.intro, fun od => ?_⟩
    have kD : Kp D H (upd H D (.frz od (.dT kvs))) := Kp.upd _
    have dv8 := dv.kp (num_notD hD) kD
    have hD8 : (upd H D (.frz od (.dT kvs))) D = some (.frz od (.dT kvs)) := upd_same
    refine ⟨_, rfl, D, od, kvs, rfl, hD8, fun M nM => ?_⟩
    have nMH : H M = none := by
      have : M ≠ D := fun z => by rw [z, hD8] at nM; cases nM
      rw [upd_ne this] at nM
      exact nM
    generalize upd H D (.frz od (.dT kvs)) = H8 at kD dv8 hD8 nM
    refine lc_itemsT (fun i H9 => Same H8 H9 ∧ ∃ acc, H9 M = some (.lst acc) ∧ TermsV H9 acc (dts f (ps.take i))) ⟨same_upd nM, [], upd_same, .nil⟩ (fun i H9 p => p.1 _ _ hD8) (fun i k v y T H9 e hy nT p => ?_) (fun H9 p => ?_)
    · obtain ⟨sm, acc, hM, tv⟩ := p
      have lt : i < ps.length := by rw [← kl]; exact (List.getElem?_eq_some_iff.mp e).1
      have et : ps[i]? = some ps[i] := List.getElem?_eq_getElem lt
      have mem := List.mem_of_getElem? e
      obtain ⟨p, ep, le, hn⟩ := dv8.at_ _ mem
      have e1 : p = ps[i] := by
        have e1 : (kvs.map (·.1))[i]? = some k := by rw [List.getElem?_map, e]; rfl
        rw [ek, List.getElem?_map, et] at e1
        exact k2_inj (ep.symm.trans (Option.some.inj e1).symm)
      subst ep
      have s9 : Same H9 (upd H9 T (.tup [.ref y, v])) := same_upd nT
      have hn9 := (hn.same sm).same s9
      have al : acc.length < 29 := by
        have := Paired.length tv
        have h2 : (dts f (ps.take i)).length ≤ (ps.take i).length := by
          unfold dts
          rw [List.length_map]
          exact List.length_filter_le _ _
        rw [List.length_take] at h2
        omega
      have tk : ps.take (i + 1) = ps.take i ++ [p] := by rw [List.take_add_one, et, e1]; rfl
      refine ⟨T, _, rfl, tupAt upd_same, rfl, _, _, rfl, y, _, rfl, tupAt (s9 _ _ hy), rfl, _, _, rfl, _, _, rfl, rfl, _, _, rfl, rfl, rfl, ?_⟩
      refine ⟨_, rfl, _, _, hn9.dp, .int 0, numD_shaped _, rfl, _, rfl, ?_⟩
      rw [numD_zero]
      by_cases z : f p.1 p.2 = 0
      · rw [decide_eq_true z]
        refine iteF ⟨sm.trans s9, acc, s9 _ _ hM, ?_⟩
        have : dts f (ps.take (i + 1)) = dts f (ps.take i) := by
          unfold dts
          rw [tk, List.filter_append, List.filter_cons, if_neg (by simp [z]), List.filter_nil, List.append_nil]
        rw [this]
        exact tv.same s9
      · rw [decide_eq_false z]
        refine iteT ⟨_, rfl, _, rfl, _, rfl, s3, fun l nl => ?_⟩
        have s10 : Same H9 (upd (upd H9 T (.tup [.ref y, v])) l (.tup [.int (p.1 : Int), .int (p.2 : Int), v])) := Same.upd s9 nl
        have hM10 := s10 _ _ hM
        refine ⟨acc, hM10, l28' al, sov (sm.trans s10) nM, _, upd_same, ?_⟩
        have : dts f (ps.take (i + 1)) = dts f (ps.take i) ++ [tm f p] := by
          unfold dts
          rw [tk, List.filter_append, List.filter_cons, if_pos (decide_eq_true z), List.filter_nil, List.map_append]
          rfl
        rw [this]
        refine Paired.snoc ((tv.same s10).kp (lst_notD hM10) (Kp.upd _)) (TermV.kp (D := M) ⟨l, v, rfl, upd_same, ?_⟩ (lst_notD hM10) (Kp.upd _))
        exact (hn.same sm).same s10
    · obtain ⟨sm, acc, hM, tv⟩ := p
      rw [kl, List.take_length] at tv
      have hD9 := sm _ _ hD8
      refine ⟨hD9, ?_⟩
      have nD9 : NoT H9 D := fun xs z => by rw [hD9] at z; cases z
      have hMD : M ≠ D := fun z => by rw [z, hD9] at hM; cases hM
      have kD2 : Kp D H9 (upd H9 D (.dT kvs)) := Kp.upd _
      have s11 : Same H (upd H9 D (.dT kvs)) := fun b o eb => by
        by_cases bD : b = D
        · subst bD
          rw [upd_same]
          exact hD.symm.trans eb
        · exact kD2 _ _ bD (sm _ _ (kD _ _ bD eb))
      have tv11 := tv.kp nD9 kD2
      have hM11 := kD2 _ _ hMD hM
      have o := q.go s11
      rw [← dts_co pn plo pall] at o
      exact mk_go (.inr hM11) tv11 (dts_ok pn plo) o
end
end Kd

namespace Kd
open PySem PySem.Spec PyProof.Rows L2 Pk
section
variable {P : Program} {w : World} {K : PySem.W.Frag} {mg : Str → Option Value} {base : Heap} {C : Addr}
theorem PolyC.isi (PC : PolyC P w K mg base C) {H : Hp} {x : Addr} {f : Co} (h : PolyO C H x f) : TyX K H (.ref x) (.ref C) := by
  obtain ⟨dx, q, us, h1, _⟩ := h
  exact .base (.ins h1 PC.cls PC.hcl PC.hget PC.htk PC.hmr)
theorem kit_self {a : Addr} : PySem.W.kitOne K (.ref a) (.ref a) = some true := by
  unfold PySem.W.kitOne
  simp
/-! ### need_poly, need_low -/
def spNeedPoly (C : Addr) : Sp := fun vs H Q _ => ∃ v z f, vs = [v, z] ∧ PolyV C H v f ∧ Q v H
theorem ok_need_poly (R : Row K mg "need_poly" (top 32) ["value", "part"]) (gi : mg "isinstance" = none) (PC : PolyC P w K mg base C) : Okk P w K mg base "need_poly" 1 ["value", "part"] (spNeedPoly C) := by
  refine okk R sc_need_poly (fun vs H Q E h => ?_) (fun f cdv A outer s H vs Q E hr h => ?_)
  · obtain ⟨v, z, f, rfl, _⟩ := h
    rfl
  · obtain ⟨v, z, f, rfl, ⟨x, rfl, hx⟩, q⟩ := h
    refine ⟨_, pss_cons (ps_if (pt_not (pt_val (pe_callB call_isi (by rfl) gi (by decide +kernel) (pa_cons (pv 0) (pa_cons (pe_glob (v := .ref C) (by rfl) PC.gC rfl) pa_nil))))) pss_never pss_nil) (pss_one (ps_ret (pv 0))), ?_⟩
    exact ⟨_, rfl, _, _, _, _, true, rfl, .own C, PC.isi hx, kit_self, true, rfl, iteF ⟨_, rfl, q⟩⟩
def spNeedLow : Sp := fun vs H Q _ => ∃ d : Int, vs = [.int d] ∧ d ≤ 6 ∧ Q .non H
theorem ok_need_low (R : Row K mg "need_low" (top 33) ["degree"]) (gm : ∃ u, mg "MOST_DEGREE" = some u ∧ RelV (.int 6) u) : Okk P w K mg base "need_low" 1 ["degree"] spNeedLow := by
  refine okk R sc_need_low (fun vs H Q E h => ?_) (fun f cdv A outer s H vs Q E hr h => ?_)
  · obtain ⟨d, rfl, _⟩ := h
    rfl
  · obtain ⟨d, rfl, le, q⟩ := h
    obtain ⟨u, gu, ru⟩ := gm
    refine ⟨_, pss_one (ps_if (pt_cmpR op_gt (pv 0) (pe_glob (by rfl) gu ru) (nomark _)) pss_never pss_nil), ?_⟩
    refine ⟨_, rfl, d, 6, rfl, rfl, _, rfl, ?_⟩
    rw [decide_eq_false (by omega)]
    exact iteF q
/-! ### == -/
def termD (t : Pk.Tm) : PyData := .tuple [.int (t.1 : Int), .int (t.2.1 : Int), numD t.2.2]
def termsD (ts : List Pk.Tm) : PyData := .tuple (ts.map termD)
theorem TermV.dp {H : Hp} {v : V} {t : Pk.Tm} (h : TermV H v t) : Dp K H v (termD t) := by
  obtain ⟨p, n, rfl, h1, h2⟩ := h
  exact .tup (tupAt h1) (.cons (.int _) (.cons (.int _) (.cons h2.dp .nil)))
theorem TermsV.dps {H : Hp} {us : List V} {ts : List Pk.Tm} (h : TermsV H us ts) : DpAll K H us (ts.map termD) := by
  induction h with
  | nil => exact .nil
  | cons h _ ih => exact .cons h.dp ih
theorem TermsV.dp {H : Hp} {q : Addr} {us : List V} {ts : List Pk.Tm} (hq : H q = some (.tup us)) (h : TermsV H us ts) : Dp K H (.ref q) (termsD ts) := .tup (tupAt hq) (TermsV.dps h)
theorem numD_lay (r : Rat) : (numD r).canLay0 = true ∧ (numD r).depth ≤ 1 := by
  unfold numD
  split <;> exact ⟨rfl, by simp [PyData.depth, PyData.depthAll]⟩
theorem termsD_ok (ts : List Pk.Tm) : PyData.canLayAll0 (ts.map termD) = true ∧ PyData.depthAll (ts.map termD) ≤ 2 := by
  induction ts with
  | nil => exact ⟨rfl, by decide⟩
  | cons t ts ih =>
    obtain ⟨l1, l2⟩ := numD_lay t.2.2
    refine ⟨?_, ?_⟩
    · show (PyData.canLay0 (termD t) && PyData.canLayAll0 (ts.map termD)) = true
      rw [ih.1, Bool.and_true]
      show (true && (true && (PyData.canLay0 (numD t.2.2) && true))) = true
      rw [l1]
      rfl
    · show max (PyData.depth (termD t)) (PyData.depthAll (ts.map termD)) ≤ 2
      have : PyData.depth (termD t) ≤ 2 := by
        show max 0 (max 0 (max (PyData.depth (numD t.2.2)) 0)) + 1 ≤ 2
        omega
      omega
theorem termsD_shaped (ts : List Pk.Tm) : SeqAt.shaped (termsD ts) = true := by
  obtain ⟨h1, h2⟩ := termsD_ok ts
  show (PyData.canLayAll0 (ts.map termD) && decide (PyData.depthAll (ts.map termD) + 1 ≤ 64)) = true
  rw [h1, decide_eq_true (by omega)]
  rfl
def SameP (C : Addr) : Addr → Addr → Hp → Prop := fun a b H => ∃ f, PolyO C H a f ∧ PolyO C H b f
theorem ok_eq (PC : PolyC P w K mg base C) (gi : mg "isinstance" = none) : ∀ f fd, FunD K "__eq__" "Poly.__eq__" (defArgs (inClass (top 31) 1)) (defBody (inClass (top 31) 1)) (defScope (inClass (top 31) 1)) [] [] f fd → FnOk P w K mg base CX0 1 f fd ["self", "other"] (spEq (SameP C)) := by
  intro f fd F
  refine F.ok sc_Poly_eq (fun vs H Q E h => ?_) (fun cdv A outer s H vs Q E hr h => ?_)
  · obtain ⟨a, b, rfl, _⟩ := h
    rfl
  · obtain ⟨a, b, rfl, ⟨f, ha, hb⟩, q⟩ := h
    refine ⟨_, PSs.nox (pss_one (ps_ret (pe_and (pe_callB call_isi (by rfl) gi (by decide +kernel) (pa_cons (pv 1) (pa_cons (pe_glob (v := .ref C) (by rfl) PC.gC rfl) pa_nil)))
      (pe_one (pe_cmpR (op_eqD hr.units) (pe_fld (pv 0) (by rfl)) (pe_fld (pv 1) (by rfl)) (nomark _)))))), ?_⟩
    refine ⟨_, rfl, _, _, _, _, true, rfl, .own C, PC.isi hb, kit_self, true, rfl, iteT ?_⟩
    obtain ⟨dx, qa, us, a1, a2, a3, _⟩ := ha
    obtain ⟨dy, qb, us', b1, b2, b3, _⟩ := hb
    refine ⟨_, rfl, a, C, dx, _, _, rfl, a1, PC.cls, PC.nt, rfl, _, rfl, b, C, dy, _, _, rfl, b1, PC.cls, PC.nt, rfl, _, _, TermsV.dp a2 a3, TermsV.dp b2 b3, termsD_shaped _, termsD_shaped _, ?_⟩
    rw [SeqAt.eqv_refl]
    · exact q H Ext.rfl'
    · exact SeqAt.canLay_of_shaped (termsD_shaped _)
/-! ### lone, line -/
theorem k2_at {H : Hp} {p : Addr} {i j : Nat} (h : H p = some (.tup [.int (i : Int), .int (j : Int)])) : H p = some (.tup ((k2 (i, j)).map kV)) := h
theorem set_cst (r : Rat) : setC (cst 0) 0 0 r = cst r := by
  funext i j
  unfold setC cst
  by_cases h : i = 0 ∧ j = 0
  · rw [if_pos h, if_pos h]
  · rw [if_neg h, if_neg h, if_neg h]
theorem set_lin (a b c : Rat) : setC (setC (setC (cst 0) 1 0 a) 0 1 b) 0 0 c = lin a b c := by
  funext i j
  unfold setC lin cst
  by_cases h1 : i = 1 ∧ j = 0
  · obtain ⟨rfl, rfl⟩ := h1
    simp
  · by_cases h2 : i = 0 ∧ j = 1
    · obtain ⟨rfl, rfl⟩ := h2
      simp
    · simp [h1, h2]
def spLone (C : Addr) : Sp := fun vs H Q _ => ∃ v r, vs = [v] ∧ NumV H v r ∧ Out H Q fun v H' => PolyV C H' v (cst r)
theorem ok_lone (R : Row K mg "lone" (top 35) ["number"]) (O : Okk P w K mg base "of_powers" 7 ["found"] (spOfPowers C)) : Okk P w K mg base "lone" 8 ["number"] (spLone C) := by
  refine okk R sc_lone (fun vs H Q E h => ?_) (fun f cdv A outer s H vs Q E hr h => ?_)
  · obtain ⟨v, r, rfl, _⟩ := h
    rfl
  · obtain ⟨v, r, rfl, hv, q⟩ := h
    refine ⟨_, pss_one (ps_ret (pe_cl O hr (pa_cons (pe_dispT hr.units0 (pps_cons (pe_tup (pa_cons pe_int (pa_cons pe_int pa_nil))) (pv 0) pps_nil) (by rfl) (by rfl) (by simp) (by decide)) pa_nil))), ?_⟩
    refine fun D nD => ⟨s2, fun p np => ⟨_, rfl, ?_, [(k2 (0, 0), p, v)], rfl, fun t ht => ?_, (show 1 ≤ 15 by decide), ?_⟩⟩
    · rw [upd_ne (ne_of_none upd_same np)]
      exact upd_same
    · rw [List.mem_singleton.mp ht]
      exact upd_same
    · have s1 : Same H (upd (upd (upd H D (.dT [])) p (.tup [.int 0, .int 0])) D (.dT (mergeT [] [(k2 (0, 0), p, v)]))) := sov (sov (same_upd nD) (by
        rw [upd_ne (fun z => ?_)] at np
        · exact np
        · rw [z, upd_same] at np
          cases np)) nD
      refine ⟨D, _, cst r, rfl, upd_same, ?_, q.go s1⟩
      have := ((DV.nil H).put (i := 0) (j := 0) (by decide) hv).same s1
      rw [set_cst] at this
      exact this
def spLine (C : Addr) : Sp := fun vs H Q _ => ∃ v1 v2 v3 a b c, vs = [v1, v2, v3] ∧ NumV H v1 a ∧ NumV H v2 b ∧ NumV H v3 c ∧ Out H Q fun v H' => PolyV C H' v (lin a b c)
theorem ok_line (R : Row K mg "line" (top 36) ["across", "up", "number"]) (O : Okk P w K mg base "of_powers" 7 ["found"] (spOfPowers C)) : Okk P w K mg base "line" 8 ["across", "up", "number"] (spLine C) := by
  refine okk R sc_line (fun vs H Q E h => ?_) (fun f cdv A outer s H vs Q E hr h => ?_)
  · obtain ⟨v1, v2, v3, a, b, c, rfl, _⟩ := h
    rfl
  · obtain ⟨v1, v2, v3, a, b, c, rfl, h1, h2, h3, q⟩ := h
    refine ⟨_, pss_one (ps_ret (pe_cl O hr (pa_cons (pe_dispT hr.units0 (pps_cons (pe_tup (pa_cons pe_int (pa_cons pe_int pa_nil))) (pv 0) (pps_cons (pe_tup (pa_cons pe_int (pa_cons pe_int pa_nil))) (pv 1) (pps_cons (pe_tup (pa_cons pe_int (pa_cons pe_int pa_nil))) (pv 2) pps_nil))) (by rfl) (by rfl) (by simp) (by decide)) pa_nil))), ?_⟩
    refine fun D nD => ?_
    have k0 : Kp D H (upd H D (.dT [])) := Kp.upd _
    have d0 : (upd H D (.dT [])) D = some (.dT []) := upd_same
    have sH0 : Same H (upd H D (.dT [])) := same_upd nD
    generalize upd H D (.dT []) = H0 at k0 d0 sH0
    refine ⟨s2, fun p1 n1 => ⟨_, rfl, s2, fun p2 n2 => ⟨_, rfl, s2, fun p3 n3 => ⟨_, rfl, ?_⟩⟩⟩⟩
    have sA : Same H0 (upd H0 p1 (.tup [.int 1, .int 0])) := same_upd n1
    have sB : Same (upd H0 p1 (.tup [.int 1, .int 0])) (upd (upd H0 p1 (.tup [.int 1, .int 0])) p2 (.tup [.int 0, .int 1])) := same_upd n2
    have sC : Same (upd (upd H0 p1 (.tup [.int 1, .int 0])) p2 (.tup [.int 0, .int 1])) (upd (upd (upd H0 p1 (.tup [.int 1, .int 0])) p2 (.tup [.int 0, .int 1])) p3 (.tup [.int 0, .int 0])) := same_upd n3
    have e1 := sC _ _ (sB _ _ (upd_same (H := H0) (a := p1) (o := HO.tup [.int 1, .int 0])))
    have e2 := sC _ _ (upd_same (H := upd H0 p1 (.tup [.int 1, .int 0])) (a := p2) (o := HO.tup [.int 0, .int 1]))
    have e3 := upd_same (H := upd (upd H0 p1 (.tup [.int 1, .int 0])) p2 (.tup [.int 0, .int 1])) (a := p3) (o := HO.tup [.int 0, .int 0])
    have s4 := (sA.trans sB).trans sC
    generalize upd (upd (upd H0 p1 (.tup [.int 1, .int 0])) p2 (.tup [.int 0, .int 1])) p3 (.tup [.int 0, .int 0]) = H4 at e1 e2 e3 s4
    refine ⟨s4 _ _ d0, [(k2 (1, 0), p1, v1), (k2 (0, 1), p2, v2), (k2 (0, 0), p3, v3)], rfl, fun t ht => ?_, (show 3 ≤ 15 by decide), ?_⟩
    · rcases List.mem_cons.mp ht with rfl | ht
      · exact e1
      · rcases List.mem_cons.mp ht with rfl | ht
        · exact e2
        · rw [List.mem_singleton.mp ht]
          exact e3
    · have s5 : Same H (upd H4 D (.dT (mergeT [] [(k2 (1, 0), p1, v1), (k2 (0, 1), p2, v2), (k2 (0, 0), p3, v3)]))) := sov (sH0.trans s4) nD
      refine ⟨D, _, lin a b c, rfl, upd_same, ?_, q.go s5⟩
      have := ((((DV.nil H).put (i := 1) (j := 0) (by decide) h1).put (i := 0) (j := 1) (by decide) h2).put (i := 0) (j := 0) (by decide) h3).same s5
      rw [set_lin] at this
      exact this
end
end Kd

namespace Kd
open PySem PySem.Spec PyProof.Rows L2 Pk
theorem dc_tupF {K : PySem.W.Frag} {tl : TE} {a : Addr} {xs : List V} {g : TG} {tt : TT} {tk tv : TE} {vs : List Nat} {σ : L2.St} {H1 : Hp} {Q : VK} (ha : H1 a = some (.tup xs)) (ht : ∀ R : V → Hp → Prop, R (.ref a) H1 → tl σ H1 R)
    (Pv : Addr → Nat → Hp → Prop) (h0 : ∀ D, H1 D = none → Pv D 0 (upd H1 D (.dT []))) (hl : ∀ D i H, H1 D = none → Pv D i H → Same H1 H)
    (hs : ∀ D i x H, H1 D = none → xs[i]? = some x → Pv D i H → dcTurn g tt tk tv vs σ D (Pv D (i + 1)) x H) (hd : ∀ D H, H1 D = none → Pv D xs.length H → Q (.ref D) H) : tDcT (iTup K tl) g tt tk tv vs σ H1 Q :=
  ht _ ⟨a, rfl, ⟨xs, tupAt ha⟩, fun D nD => dcT_tup (K := K) (xs := xs) (Pv D) (h0 D nD) (fun i H _ p => tupAt (hl D i H nD p _ _ ha)) (fun i x H e p => hs D i x H nD e p) fun H p => hd D H nD p⟩
theorem take_snoc {α : Type} {l : List α} {i : Nat} {t : α} (h : l[i]? = some t) : l.take (i + 1) = l.take i ++ [t] := by rw [List.take_add_one, h]; rfl
theorem nodup_take {l : List Pk.Tm} (nd : (l.map pr).Nodup) {i : Nat} {t : Pk.Tm} (h : l[i]? = some t) : pr t ∉ (l.take i).map pr := fun m => by
  rw [← List.take_append_drop (i + 1) l, take_snoc h, List.map_append, List.map_append] at nd
  exact (List.nodup_append.mp (List.nodup_append.mp nd).1).2.2 _ m _ (List.mem_singleton.mpr rfl) rfl
/-! ### sizes -/
def Sz (D M : Nat) : Prop := D < 2 ^ 4000 ∧ M < 2 ^ 4000
theorem IB.sz {D M : Nat} {r : Rat} (h : IB D M r) (s : Sz D M) : NB 4000 r := h.nb s.1 s.2
theorem SC.szt {D M : Nat} {f : Co} (h : SC D M f) (s : Sz D M) : ∀ t ∈ terms f, NB 4000 t.2.2 := fun t ht => (h.sl.term ht).nb s.1 s.2
section
variable {P : Program} {w : World} {K : PySem.W.Frag} {mg : Str → Option Value} {base : Heap} {C : Addr}
/-! ### times_of -/
def tims (c : Rat) (l : List Pk.Tm) : List Pk.Tm := l.map fun t => (t.1, t.2.1, t.2.2 * c)
theorem tims_pr (c : Rat) (l : List Pk.Tm) : (tims c l).map pr = l.map pr := by
  unfold tims
  rw [List.map_map]
  rfl
theorem tims_co {f : Co} (lw : Lw f) (c : Rat) : co (tims c (terms f)) = scl f c := by
  funext i j
  unfold scl
  by_cases m : (i, j) ∈ (terms f).map pr
  · obtain ⟨t, ht, e⟩ := List.mem_map.mp m
    unfold pr at e
    injection e with e1 e2
    subst e1 e2
    have := co_one_place (ts := tims c (terms f)) (by rw [tims_pr]; exact terms_nd f) (List.mem_map.mpr ⟨t, ht, rfl⟩)
    rw [this, (terms_of ht).2.1]
  · rw [co_no_place]
    · have : f i j = 0 := by
        apply Classical.byContradiction
        intro z
        refine m ?_
        rw [terms_pr]
        exact (mem_nzs lw).mpr z
      rw [this]
      grind
    · rw [tims_pr]
      exact m
def spTimesOf (C : Addr) : Sp := fun vs H Q _ => ∃ v n f c, vs = [v, n] ∧ PolyV C H v f ∧ NumV H n c ∧ NB 4000 c ∧ (∀ t ∈ terms f, NB 4000 t.2.2) ∧ Out H Q fun v H' => PolyV C H' v (scl f c)
theorem ok_times_of (R : Row K mg "times_of" (top 38) ["poly", "number"]) (PC : PolyC P w K mg base C) (O : Okk P w K mg base "of_powers" 7 ["found"] (spOfPowers C)) (O2 : Okk P w K mg base "product" 3 ["one", "other"] spMul) : Okk P w K mg base "times_of" 8 ["poly", "number"] (spTimesOf C) := by
  refine okk R sc_times_of (fun vs H Q E h => ?_) (fun f cdv A outer s H vs Q E hr h => ?_)
  · obtain ⟨v, n, f, c, rfl, _⟩ := h
    rfl
  · obtain ⟨v, n, f, c, rfl, hv, hn, bc, bt, q⟩ := h
    have nd := sc_times_of.nd
    refine ⟨_, pss_one (ps_ret (pe_cl O hr (pa_cons (pe_dcT (own := [("i", 2), ("j", 3), ("its", 4)]) (g := gTup K 3 (gCons (gName 2) (gCons (gName 3) (gCons (gName 4) gNil)))) (tt := tYes) hr.units0 rfl nd (pi_tup (pe_fld (pv 0) (by rfl))) (blkOk_by (N := ["poly", "number", "i", "j", "its"]) (sc := defScope (top 38)) (by decide +kernel))
      (fun _ _ _ _ _ => pg_tup rfl (pgs_cons (pg_name (i := 2) nd rfl (Or.inl rfl)) (pgs_cons (pg_name (i := 3) nd rfl (Or.inl rfl)) (pgs_cons (pg_name (i := 4) nd rfl (Or.inl rfl)) pgs_nil)))) (fun _ _ _ _ _ => pts_nil)
      (fun _ _ _ _ _ => pe_tup (pa_cons (pv 2) (pa_cons (pv 3) pa_nil))) (fun _ _ _ _ _ => pe_cl O2 hr (pa_cons (pv 4) (pa_cons (pv 1) pa_nil)))) pa_nil))), ?_⟩
    obtain ⟨x, rfl, dx, qa, us, a1, a2, a3, lw⟩ := hv
    dsimp only [tRet, tCall, tCons]
    refine dc_tupF (xs := us) a2 (fun R r => ⟨_, rfl, x, C, dx, _, _, rfl, a1, PC.cls, PC.nt, rfl, r⟩) (fun D i H' => Same H H' ∧ ∃ kvs, H' D = some (.dT kvs) ∧ DV H' kvs (co (tims c ((terms f).take i))))
      (fun D nD => ⟨same_upd nD, [], upd_same, DV.nil0 _⟩) (fun D i H' nD p => p.1) (fun D i z H' nD e pv => ?_) (fun D H3 nD pv => ?_)
    · obtain ⟨sm, kvs, hD, dv⟩ := pv
      obtain ⟨t, et, ht⟩ := tv_get a3 e
      have tmm := List.mem_of_getElem? et
      obtain ⟨b, m, rfl, hb, hm⟩ := ht.same sm
      refine ⟨b, _, rfl, tupAt hb, rfl, _, _, rfl, _, _, rfl, _, _, rfl, rfl, rfl, ?_⟩
      refine ⟨_, rfl, _, rfl, s2, fun p np => ⟨_, rfl, _, rfl, m, n, t.2.2, c, rfl, hm.same (same_upd np), (hn.same sm).same (same_upd np), bt t tmm, bc, True.intro, fun v' H5 s5 hv' => ?_⟩⟩
      have s6 : Same H' H5 := fun b o eb => s5 _ _ (same_upd np _ _ eb)
      have hD5 := s6 _ _ hD
      have dv' : DV H5 (putK kvs (k2 (t.1, t.2.1)) v') (co (tims c ((terms f).take (i + 1)))) := by
        have e1 : tims c ((terms f).take (i + 1)) = tims c ((terms f).take i) ++ [(t.1, t.2.1, t.2.2 * c)] := by
          rw [take_snoc et]
          unfold tims
          rw [List.map_append]
          rfl
        have new : pr (t.1, t.2.1, t.2.2 * c) ∉ (tims c ((terms f).take i)).map pr := by
          rw [tims_pr]
          exact nodup_take (t := t) (terms_nd f) et
        rw [e1, ← setC_new new]
        exact (dv.same s6).put (terms_of tmm).1 hv'
      exact ⟨kvs, k2 (t.1, t.2.1), p, rfl, s5 _ _ upd_same, hD5, l28' (by have := dv.len; omega), sov (sm.trans s6) nD, _, upd_same, dv'.kp (num_notD hD5) (Kp.upd _)⟩
    · obtain ⟨sm, kvs, hD, dv⟩ := pv
      rw [Paired.length a3, List.take_length, tims_co lw] at dv
      exact ⟨D, kvs, _, rfl, hD, dv, q.go sm⟩
/-! ### sum_of -/
def spSumOf (C : Addr) : Sp := fun vs H Q _ => ∃ v1 v2 f g D M N, vs = [v1, v2] ∧ PolyV C H v1 f ∧ PolyV C H v2 g ∧ SC D M f ∧ SC D N g ∧ Sz D (M + N) ∧ Out H Q fun v H' => PolyV C H' v (Pk.add f g)
theorem ok_sum_of (R : Row K mg "sum_of" (top 37) ["one", "other"]) (PC : PolyC P w K mg base C) (O : Okk P w K mg base "of_powers" 7 ["found"] (spOfPowers C)) (O2 : Okk P w K mg base "added" 3 ["one", "other"] spAdd) : Okk P w K mg base "sum_of" 8 ["one", "other"] (spSumOf C) := by
  refine okk R sc_sum_of (fun vs H Q E h => ?_) (fun f cdv A outer s H vs Q E hr h => ?_)
  · obtain ⟨v1, v2, f, g, D, M, N, rfl, _⟩ := h
    rfl
  · obtain ⟨v1, v2, f, g, Dn, M, N, rfl, h1, h2, z1, z2, sz, q⟩ := h
    have nd := sc_sum_of.nd
    refine ⟨_, pss_cons (ps_setDcT (i := 5) (own := [("i", 2), ("j", 3), ("number", 4)]) (g := gTup K 3 (gCons (gName 2) (gCons (gName 3) (gCons (gName 4) gNil)))) (tt := tYes) hr.units0 rfl nd rfl rfl (sw_dict rfl rfl rfl (by decide +kernel)) (pi_tup (pe_fld (pv 0) (by rfl))) (blkOk_by (N := ["one", "other", "i", "j", "number", "found"]) (sc := defScope (top 37)) (by decide +kernel))
      (fun _ _ _ _ _ => pg_tup rfl (pgs_cons (pg_name (i := 2) nd rfl (Or.inl rfl)) (pgs_cons (pg_name (i := 3) nd rfl (Or.inl rfl)) (pgs_cons (pg_name (i := 4) nd rfl (Or.inl rfl)) pgs_nil)))) (fun _ _ _ _ _ => pts_nil)
      (fun _ _ _ _ _ => pe_tup (pa_cons (pv 2) (pa_cons (pv 3) pa_nil))) (fun _ _ _ _ _ => pv 4))
      (pss_cons (ps_for PassesOwn.never rfl (pi_tup (pe_fld (pv 1) (by rfl))) (pg_tup rfl (pgs_cons (pg_name (i := 2) nd rfl (Or.inl rfl)) (pgs_cons (pg_name (i := 3) nd rfl (Or.inl rfl)) (pgs_cons (pg_name (i := 4) nd rfl (Or.inl rfl)) pgs_nil))))
        (pss_one (ps_dput (u1 hr) (pv 5) (pe_tup (pa_cons (pv 2) (pa_cons (pv 3) pa_nil))) (pe_cl O2 hr (pa_cons (pe_dget2 (u1 hr) (pv 5) (pe_tup (pa_cons (pv 2) (pa_cons (pv 3) pa_nil))) pe_int ⟨by rfl, by rfl, by rfl, by rfl⟩) (pa_cons (pv 4) pa_nil))) (by rfl))))
      (pss_one (ps_ret (pe_cl O hr (pa_cons (pv 5) pa_nil))))), ?_⟩
    obtain ⟨x, rfl, dx, qa, us, a1, a2, a3, lw⟩ := h1
    obtain ⟨y, rfl, dy, qb, us2, b1, b2, b3, lw2⟩ := h2
    dsimp only [tSeq, tAsg]
    refine dc_tupF (xs := us) a2 (fun R r => ⟨_, rfl, x, C, dx, _, _, rfl, a1, PC.cls, PC.nt, rfl, r⟩) (fun D i H' => Same H H' ∧ ∃ kvs, H' D = some (.dT kvs) ∧ DV H' kvs (co ((terms f).take i)))
      (fun D nD => ⟨same_upd nD, [], upd_same, DV.nil0 _⟩) (fun D i H' nD p => p.1) (fun D i z H' nD e pv => ?_) (fun D H3 nD pv => ?_)
    · obtain ⟨sm, kvs, hD, dv⟩ := pv
      obtain ⟨t, et, ht⟩ := tv_get a3 e
      have tmm := List.mem_of_getElem? et
      obtain ⟨b, m, rfl, hb, hm⟩ := ht.same sm
      refine ⟨b, _, rfl, tupAt hb, rfl, _, _, rfl, _, _, rfl, _, _, rfl, rfl, rfl, ?_⟩
      refine ⟨_, rfl, _, rfl, s2, fun p np => ⟨_, rfl, ?_⟩⟩
      have s6 : Same H' (upd H' p (.tup [.int (t.1 : Int), .int (t.2.1 : Int)])) := same_upd np
      have hp : (upd H' p (.tup [.int (t.1 : Int), .int (t.2.1 : Int)])) p = some (.tup [.int (t.1 : Int), .int (t.2.1 : Int)]) := upd_same
      have hD5 := s6 _ _ hD
      have dv' : DV (upd H' p (.tup [.int (t.1 : Int), .int (t.2.1 : Int)])) (putK kvs (k2 (t.1, t.2.1)) m) (co ((terms f).take (i + 1))) := by
        rw [take_snoc et, ← setC_new (nodup_take (terms_nd f) et)]
        exact (dv.same s6).put (terms_of tmm).1 (hm.same s6)
      exact ⟨kvs, k2 (t.1, t.2.1), p, rfl, hp, hD5, l28' (by have := dv.len; omega), sov (sm.trans s6) nD, _, upd_same, dv'.kp (num_notD hD5) (Kp.upd _)⟩
    · obtain ⟨sm, kvs, hD, dv⟩ := pv
      rw [Paired.length a3, List.take_length] at dv
      dsimp only [gName, tNext]
      refine ⟨_, rfl, y, C, dy, _, _, rfl, sm _ _ b1, PC.cls, PC.nt, rfl, qb, rfl, ⟨_, tupAt (sm _ _ b2)⟩, ?_⟩
      refine for_tup (xs := us2) (fun i σ H' => ∃ o1 o2 o3 kvs, σ = [some (.ref x), some (.ref y), o1, o2, o3, some (.ref D)] ∧ Same H H' ∧ H' D = some (.dT kvs) ∧ DV H' kvs (co (terms f ++ (terms g).take i))) ⟨_, _, _, kvs, rfl, sm, hD, by rw [List.take_zero, List.append_nil]; exact dv⟩
        (fun i σ H' _ p => ?_) (fun i z σ H' e p => ?_) (fun σ H' p => ?_)
      · obtain ⟨o1, o2, o3, kvs', _, s', _⟩ := p
        exact tupAt (s' _ _ b2)
      · obtain ⟨o1, o2, o3, kvs', rfl, s', hD', dv'⟩ := p
        obtain ⟨t, et, ht⟩ := tv_get b3 e
        have tmm := List.mem_of_getElem? et
        obtain ⟨b, m, rfl, hb, hm⟩ := ht.same s'
        have szl : SL Dn (M + N) (terms f ++ (terms g).take i) := z1.sl.append (SL.pre (m := (terms g).drop i) (by rw [List.take_append_drop]; exact z2.sl))
        refine ⟨b, _, rfl, tupAt hb, rfl, _, _, rfl, _, _, rfl, _, _, rfl, rfl, ?_⟩
        refine ⟨_, rfl, D, rfl, .inr ⟨kvs', .inl hD'⟩, _, rfl, _, rfl, s2, fun p np => ?_⟩
        have s6 : Same H' (upd H' p (.tup [.int (t.1 : Int), .int (t.2.1 : Int)])) := same_upd np
        have hp : (upd H' p (.tup [.int (t.1 : Int), .int (t.2.1 : Int)])) p = some (.tup [.int (t.1 : Int), .int (t.2.1 : Int)]) := upd_same
        generalize upd H' p (.tup [.int (t.1 : Int), .int (t.2.1 : Int)]) = H6 at s6 hp
        refine ⟨_, DGet.t (k := k2 (t.1, t.2.1)) (s6 _ _ hD') hp, _, rfl, _, _, _, t.2.2, rfl, (dv'.same s6).getD t.1 t.2.1, hm.same s6, IB.sz (szl.co _ _) sz, ?_, True.intro, fun v' H7 s7 hv' => ?_⟩
        · have b2 := (z2.sl.term tmm)
          exact b2.nb sz.1 (Nat.lt_of_le_of_lt (Nat.le_add_left _ _) sz.2)
        · have hD7 := s7 _ _ (s6 _ _ hD')
          refine ⟨_, rfl, _, rfl, _, rfl, s2, fun p' np' => ?_⟩
          have s8 : Same H7 (upd H7 p' (.tup [.int (t.1 : Int), .int (t.2.1 : Int)])) := same_upd np'
          have hp' : (upd H7 p' (.tup [.int (t.1 : Int), .int (t.2.1 : Int)])) p' = some (.tup [.int (t.1 : Int), .int (t.2.1 : Int)]) := upd_same
          generalize upd H7 p' (.tup [.int (t.1 : Int), .int (t.2.1 : Int)]) = H8 at s8 hp'
          have hD8 := s8 _ _ hD7
          have s08 : Same H' H8 := (s6.trans s7).trans s8
          refine ⟨D, _, rfl, DPut.t (k := k2 (t.1, t.2.1)) hD8 hp' (l28' (by have := dv'.len; omega)), ?_⟩
          refine ⟨_, _, _, _, rfl, sov (s'.trans s08) nD, upd_same, ?_⟩
          have dn := ((dv'.same s08).put (i := t.1) (j := t.2.1) (terms_of tmm).1 (hv'.same s8)).kp (num_notD hD8) (Kp.upd (D := D) (.dT (putK kvs' (k2 (t.1, t.2.1)) v')))
          rw [setC_add, List.append_assoc, ← take_snoc et] at dn
          exact dn
      · obtain ⟨o1, o2, o3, kvs', rfl, s', hD', dv'⟩ := p
        rw [Paired.length b3, List.take_length] at dv'
        have e : co (terms f ++ terms g) = Pk.add f g := by
          funext i j
          rw [co_append, co_terms_eq lw, co_terms_eq lw2]
          rfl
        rw [e] at dv'
        exact ⟨_, rfl, D, kvs', _, rfl, hD', dv', q.go s'⟩
end
end Kd

namespace Kd
open PySem PySem.Spec PyProof.Rows L2 Pk
/-! ### the product's terms so far -/
def sofar (f g : Co) (i k : Nat) (t : Pk.Tm) : List Pk.Tm := prodl ((terms f).take i) (terms g) ++ ((terms g).take k).map (mulT t)
theorem prodl_append (l m r : List Pk.Tm) : prodl (l ++ m) r = prodl l r ++ prodl m r := by
  unfold prodl
  rw [List.flatMap_append]
theorem prodl_one (t : Pk.Tm) (r : List Pk.Tm) : prodl [t] r = r.map (mulT t) := by
  unfold prodl
  simp
theorem sofar_pre {f g : Co} {i k : Nat} {t : Pk.Tm} (h : (terms f)[i]? = some t) : ∃ r, prodl (terms f) (terms g) = sofar f g i k t ++ r := by
  refine ⟨((terms g).drop k).map (mulT t) ++ prodl ((terms f).drop (i + 1)) (terms g), ?_⟩
  unfold sofar
  rw [List.append_assoc, ← List.append_assoc ((List.take k (terms g)).map _), ← List.map_append, List.take_append_drop, ← prodl_one, ← List.append_assoc, ← prodl_append, ← take_snoc h, ← prodl_append, List.take_append_drop]
theorem sofar_snoc {f g : Co} {i k : Nat} {t u : Pk.Tm} (h : (terms g)[k]? = some u) : sofar f g i (k + 1) t = sofar f g i k t ++ [mulT t u] := by
  unfold sofar
  rw [take_snoc h, List.map_append, List.append_assoc]
  rfl
section
variable {P : Program} {w : World} {K : PySem.W.Frag} {mg : Str → Option Value} {base : Heap} {C : Addr}
def spProductOf (C : Addr) : Sp := fun vs H Q _ => ∃ v1 v2 f g D M E N, vs = [v1, v2] ∧ PolyV C H v1 f ∧ PolyV C H v2 g ∧ SC D M f ∧ SC E N g ∧ Sz D M ∧ Sz E N ∧ Sz (D * E) (M * N) ∧ dgn f + dgn g ≤ 6 ∧ Out H Q fun v H' => PolyV C H' v (Pk.mul f g)
theorem ok_product_of (R : Row K mg "product_of" (top 39) ["one", "other"]) (PC : PolyC P w K mg base C) (O : Okk P w K mg base "of_powers" 7 ["found"] (spOfPowers C)) (O2 : Okk P w K mg base "added" 3 ["one", "other"] spAdd) (O3 : Okk P w K mg base "product" 3 ["one", "other"] spMul)
    (O4 : Okk P w K mg base "need_low" 1 ["degree"] spNeedLow) : Okk P w K mg base "product_of" 8 ["one", "other"] (spProductOf C) := by
  refine okk R sc_product_of (fun vs H Q E h => ?_) (fun f cdv A outer s H vs Q E hr h => ?_)
  · obtain ⟨v1, v2, f, g, D, M, E, N, rfl, _⟩ := h
    rfl
  · obtain ⟨v1, v2, f, g, Dn, M, En, N, rfl, h1, h2, z1, z2, sz1, sz2, sz, dg, q⟩ := h
    have nd := sc_product_of.nd
    refine ⟨_, pss_cons (ps_expr (pe_cl O4 hr (pa_cons (pe_op op_add (pe_fld (pv 0) (by rfl)) (pe_fld (pv 1) (by rfl))) pa_nil)))
      (pss_cons (ps_set (i := 2) nd rfl (Or.inl rfl) pe_dnewT)
      (pss_cons (ps_for PassesOwn.never rfl (pi_tup (pe_fld (pv 0) (by rfl))) (pg_tup rfl (pgs_cons (pg_name (i := 3) nd rfl (Or.inl rfl)) (pgs_cons (pg_name (i := 4) nd rfl (Or.inl rfl)) (pgs_cons (pg_name (i := 5) nd rfl (Or.inl rfl)) pgs_nil))))
        (pss_one (ps_for PassesOwn.never rfl (pi_tup (pe_fld (pv 1) (by rfl))) (pg_tup rfl (pgs_cons (pg_name (i := 6) nd rfl (Or.inl rfl)) (pgs_cons (pg_name (i := 7) nd rfl (Or.inl rfl)) (pgs_cons (pg_name (i := 8) nd rfl (Or.inl rfl)) pgs_nil))))
          (pss_cons (ps_set (i := 9) nd rfl (Or.inl rfl) (pe_tup (pa_cons (pe_op op_add (pv 3) (pv 6)) (pa_cons (pe_op op_add (pv 4) (pv 7)) pa_nil))))
          (pss_one (ps_dput (u1 hr) (pv 2) (pv 9) (pe_cl O2 hr (pa_cons (pe_dget2 (u1 hr) (pv 2) (pv 9) pe_int ⟨by rfl, by rfl, by rfl, by rfl⟩) (pa_cons (pe_cl O3 hr (pa_cons (pv 5) (pa_cons (pv 8) pa_nil))) pa_nil))) (by rfl)))))))
      (pss_one (ps_ret (pe_cl O hr (pa_cons (pv 2) pa_nil)))))), ?_⟩
    obtain ⟨x, rfl, dx, qa, us, a1, a2, a3, lw⟩ := h1
    obtain ⟨y, rfl, dy, qb, us2, b1, b2, b3, lw2⟩ := h2
    refine ⟨_, rfl, x, C, dx, _, _, rfl, a1, PC.cls, PC.nd, rfl, _, rfl, y, C, dy, _, _, rfl, b1, PC.cls, PC.nd, rfl, _, _, rfl, rfl, _, rfl, by omega, ?_⟩
    refine fun D nD => ?_
    dsimp only [gName, tNext]
    have s0 : Same H (upd H D (.dT [])) := same_upd nD
    have hD0 : (upd H D (.dT [])) D = some (.dT []) := upd_same
    generalize upd H D (.dT []) = H0 at s0 hD0
    refine ⟨_, rfl, x, C, dx, _, _, rfl, s0 _ _ a1, PC.cls, PC.nt, rfl, qa, rfl, ⟨_, tupAt (s0 _ _ a2)⟩, ?_⟩
    refine for_tup (xs := us) (fun i σ H' => ∃ o3 o4 o5 o6 o7 o8 o9 kvs, σ = [some (.ref x), some (.ref y), some (.ref D), o3, o4, o5, o6, o7, o8, o9] ∧ Same H H' ∧ H' D = some (.dT kvs) ∧ DV H' kvs (co (prodl ((terms f).take i) (terms g))))
      ⟨_, _, _, _, _, _, _, [], rfl, s0, hD0, by rw [List.take_zero]; exact DV.nil0 _⟩ (fun i σ H' _ p => ?_) (fun i z σ H' e p => ?_) (fun σ H' p => ?_)
    · obtain ⟨o3, o4, o5, o6, o7, o8, o9, kvs, _, s', _⟩ := p
      exact tupAt (s' _ _ a2)
    · obtain ⟨o3, o4, o5, o6, o7, o8, o9, kvs, rfl, s', hD', dv'⟩ := p
      obtain ⟨t, et, ht⟩ := tv_get a3 e
      have tmm := List.mem_of_getElem? et
      obtain ⟨b, m, rfl, hb, hm⟩ := id (ht.same s')
      refine ⟨b, _, rfl, tupAt hb, rfl, _, _, rfl, _, _, rfl, _, _, rfl, rfl, ?_⟩
      refine ⟨_, rfl, y, C, dy, _, _, rfl, s' _ _ b1, PC.cls, PC.nt, rfl, qb, rfl, ⟨_, tupAt (s' _ _ b2)⟩, ?_⟩
      refine for_tup (xs := us2) (fun k σ H' => ∃ o6 o7 o8 o9 kvs, σ = [some (.ref x), some (.ref y), some (.ref D), some (.int (t.1 : Int)), some (.int (t.2.1 : Int)), some m, o6, o7, o8, o9] ∧ Same H H' ∧ NumV H' m t.2.2 ∧ H' D = some (.dT kvs) ∧ DV H' kvs (co (sofar f g i k t)))
        ⟨_, _, _, _, kvs, rfl, s', hm, hD', by unfold sofar; rw [List.take_zero, List.map_nil, List.append_nil]; exact dv'⟩ (fun k σ H2 _ p => ?_) (fun k z σ H2 e2 p => ?_) (fun σ H2 p => ?_)
      · obtain ⟨o6, o7, o8, o9, kvs, _, s2', _⟩ := p
        exact tupAt (s2' _ _ b2)
      · obtain ⟨o6, o7, o8, o9, kvs2, rfl, s2', hm2, hD2, dv2⟩ := p
        obtain ⟨u, eu, hu⟩ := tv_get b3 e2
        have umm := List.mem_of_getElem? eu
        obtain ⟨c, n, rfl, hc, hn⟩ := hu.same s2'
        obtain ⟨rest, er⟩ := sofar_pre (g := g) (k := k) et
        obtain ⟨rest2, er2⟩ := sofar_pre (g := g) (k := k + 1) et
        have szf := z1.sl.prodl z2.sl
        have szp : SL (Dn * En) (M * N) (sofar f g i k t) := SL.pre (m := rest) (by rw [← er]; exact szf)
        have szt : IB (Dn * En) (M * N) (t.2.2 * u.2.2) := SL.term (t := mulT t u) szf (by rw [er2, sofar_snoc eu]; simp)
        have deg : (t.1 + u.1) + (t.2.1 + u.2.1) ≤ 6 := by
          have d1 := (dg_dgn lw).term tmm
          have d2 := (dg_dgn lw2).term umm
          omega
        refine ⟨c, _, rfl, tupAt hc, rfl, _, _, rfl, _, _, rfl, _, _, rfl, rfl, ?_⟩
        refine ⟨_, rfl, _, rfl, _, _, rfl, rfl, _, rfl, _, rfl, _, _, rfl, rfl, s2, fun p np => ?_⟩
        have s6 : Same H2 (upd H2 p (.tup [.int ((t.1 : Int) + (u.1 : Int)), .int ((t.2.1 : Int) + (u.2.1 : Int))])) := same_upd np
        have hp : (upd H2 p (.tup [.int ((t.1 : Int) + (u.1 : Int)), .int ((t.2.1 : Int) + (u.2.1 : Int))])) p = some (.tup ((k2 (t.1 + u.1, t.2.1 + u.2.1)).map kV)) := upd_same
        generalize upd H2 p (.tup [.int ((t.1 : Int) + (u.1 : Int)), .int ((t.2.1 : Int) + (u.2.1 : Int))]) = H6 at s6 hp
        have nb1 : NB 4000 t.2.2 := (z1.sl.term tmm).nb sz1.1 sz1.2
        have nb2 : NB 4000 u.2.2 := (z2.sl.term umm).nb sz2.1 sz2.2
        refine ⟨_, rfl, D, rfl, .inr ⟨kvs2, .inl (s6 _ _ hD2)⟩, _, rfl, _, DGet.t (s6 _ _ hD2) hp, _, rfl, _, rfl, m, n, t.2.2, u.2.2, rfl, hm2.same s6, hn.same s6, nb1, nb2, True.intro, fun v7 H7 s7 hv7 => ?_⟩
        have s67 := s6.trans s7
        refine ⟨_, _, _, _, rfl, (dv2.same s67).getD (t.1 + u.1) (t.2.1 + u.2.1), hv7, IB.sz (szp.co _ _) sz, IB.sz szt sz, True.intro, fun v8 H8 s8 hv8 => ?_⟩
        have hD8 := s8 _ _ (s67 _ _ hD2)
        have s28 := s67.trans s8
        refine ⟨_, rfl, _, rfl, D, _, rfl, DPut.t hD8 (s8 _ _ (s7 _ _ hp)) (l28' (by have := dv2.len; omega)), ?_⟩
        have kk : Kp D H8 (upd H8 D (.dT (putK kvs2 (k2 (t.1 + u.1, t.2.1 + u.2.1)) v8))) := Kp.upd _
        refine ⟨_, _, _, _, _, rfl, sov (s2'.trans s28) nD, (hm2.same s28).kp (num_notD hD8) kk, upd_same, ?_⟩
        have dn := ((dv2.same s28).put (i := t.1 + u.1) (j := t.2.1 + u.2.1) deg hv8).kp (num_notD hD8) kk
        have e5 := setC_add (sofar f g i k t) (mulT t u)
        rw [← sofar_snoc eu] at e5
        rw [← e5]
        exact dn
      · obtain ⟨o6, o7, o8, o9, kvs2, rfl, s2', hm2, hD2, dv2⟩ := p
        refine ⟨_, _, _, _, _, _, _, kvs2, rfl, s2', hD2, ?_⟩
        rw [Paired.length b3] at dv2
        unfold sofar at dv2
        rw [List.take_length, ← prodl_one, ← prodl_append, ← take_snoc et] at dv2
        exact dv2
    · obtain ⟨o3, o4, o5, o6, o7, o8, o9, kvs, rfl, s', hD', dv'⟩ := p
      rw [Paired.length a3, List.take_length] at dv'
      exact ⟨_, rfl, D, kvs, _, rfl, hD', dv', q.go s'⟩
end
end Kd

namespace Kd
open PySem PySem.Spec PyProof.Rows L2 Pk
theorem pow_le_of {E n : Nat} (h : 0 < E) (le : n ≤ 6) : E ^ n ≤ E ^ 6 := Nat.pow_le_pow_right h le
theorem r62 {n : Nat} (h : n ≤ 6) : -(2 ^ 62) ≤ (n : Int) ∧ (n : Int) < 2 ^ 62 := by omega
theorem IB.pow {E m : Nat} {x : Rat} (h : IB E m x) : ∀ n, IB (E ^ n) (m ^ n) (x ^ n)
  | 0 => ⟨by simp, by simpa using It.one 1, by
      rw [Rat.pow_zero, ra_of_nn (by decide)]
      simp⟩
  | n + 1 => by
    rw [Nat.pow_succ, Nat.pow_succ, Rat.pow_succ]
    exact (IB.pow h n).mul h
section
variable {P : Program} {w : World} {K : PySem.W.Frag} {mg : Str → Option Value} {base : Heap} {C : Addr}
/-! ### power_of -/
def spPowerOf (C : Addr) : Sp := fun vs H Q _ => ∃ v g E m d, ∃ n : Nat, vs = [v, .int (n : Int)] ∧ PolyV C H v g ∧ SC E m g ∧ 0 < m ∧ Sz (E ^ 6) (m ^ 6) ∧ Dg d g ∧ n * d ≤ 6 ∧ n ≤ 6 ∧ Out H Q fun v H' => PolyV C H' v (pw g n)
theorem ok_power_of (R : Row K mg "power_of" (top 40) ["poly", "many"]) (gr : mg "range" = none) (O1 : Okk P w K mg base "lone" 8 ["number"] (spLone C)) (O2 : Okk P w K mg base "product_of" 8 ["one", "other"] (spProductOf C)) : Okk P w K mg base "power_of" 9 ["poly", "many"] (spPowerOf C) := by
  refine okk R sc_power_of (fun vs H Q E h => ?_) (fun f cdv A outer s H vs Q E hr h => ?_)
  · obtain ⟨v, g, E, m, d, n, rfl, _⟩ := h
    rfl
  · obtain ⟨v, g, En, m, d, n, rfl, hv, z, mp, sz, dg, nd6, n6, q⟩ := h
    have nd := sc_power_of.nd
    refine ⟨_, pss_cons (ps_set (i := 2) nd rfl (Or.inl rfl) (pe_cl O1 hr (pa_cons pe_int pa_nil)))
      (pss_cons (ps_for PassesOwn.never rfl (pi_range1 (by rfl) gr (pa_cons (pv 1) pa_nil)) (pg_name (i := 3) nd rfl (Or.inl rfl))
        (pss_one (ps_set (i := 2) nd rfl (Or.inl rfl) (pe_cl O2 hr (pa_cons (pv 2) (pa_cons (pv 0) pa_nil))))))
      (pss_one (ps_ret (pv 2)))), ?_⟩
    refine ⟨_, 1, rfl, .inl ⟨rfl, rfl⟩, fun v1 H1 s1 h1 => ?_⟩
    refine ⟨_, rfl, (n : Int), rfl, (r62 n6).1, (r62 n6).2, ?_⟩
    refine for_range (lo := 0) (n := n) (fun k σ H' => ∃ u o, σ = [some v, some (.int (n : Int)), some u, o] ∧ Same H H' ∧ PolyV C H' u (pw g k)) ⟨v1, _, rfl, s1, h1⟩ (fun k σ H' lt p => ?_) (fun σ H' p => ?_)
    · obtain ⟨u, o, rfl, s', hu⟩ := p
      refine ⟨_, rfl, _, rfl, u, v, pw g k, g, En ^ k, m ^ k, En, m, rfl, hu, hv.same s', z.pow k, z, ?_, ?_, ?_, ?_, fun u' H2 s2 hu' => ⟨u', _, rfl, s'.trans s2, hu'⟩⟩
      · exact ⟨Nat.lt_of_le_of_lt (pow_le_of z.pos (by omega)) sz.1, Nat.lt_of_le_of_lt (pow_le_of mp (by omega)) sz.2⟩
      · have e1 : En ^ 1 ≤ En ^ 6 := Nat.pow_le_pow_right z.pos (by omega)
        have e2 : m ^ 1 ≤ m ^ 6 := Nat.pow_le_pow_right mp (by omega)
        rw [Nat.pow_one] at e1 e2
        exact ⟨Nat.lt_of_le_of_lt e1 sz.1, Nat.lt_of_le_of_lt e2 sz.2⟩
      · rw [← Nat.pow_succ, ← Nat.pow_succ]
        exact ⟨Nat.lt_of_le_of_lt (pow_le_of z.pos (by omega)) sz.1, Nat.lt_of_le_of_lt (pow_le_of mp (by omega)) sz.2⟩
      · have d1 := dgn_le (pw_dg dg k)
        have d2 := dgn_le dg
        have d3 : (k + 1) * d ≤ n * d := Nat.mul_le_mul_right d lt
        rw [Nat.add_mul, Nat.one_mul] at d3
        omega
    · obtain ⟨u, o, rfl, s', hu⟩ := p
      exact ⟨_, rfl, q _ _ s' hu⟩
/-! ### put_in_of -/
def Put (f g h : Co) : Prop := ∃ D M E m d e, SC D M f ∧ SC E m g ∧ SC E m h ∧ E ≤ m ∧ Dg d g ∧ Dg e h ∧ Fit (terms f) d e ∧ Sz D M ∧ Sz (E ^ 6) (m ^ 6) ∧ Sz (D * E ^ 6) (M * m ^ 6 + M * m ^ 6)
def spPutInOf (C : Addr) : Sp := fun vs H Q _ => ∃ v1 v2 v3 f g h, vs = [v1, v2, v3] ∧ PolyV C H v1 f ∧ PolyV C H v2 g ∧ PolyV C H v3 h ∧ Put f g h ∧ Out H Q fun v H' => PolyV C H' v (put f g h)
theorem ok_put_in_of (R : Row K mg "put_in_of" (top 41) ["poly", "one", "other"]) (PC : PolyC P w K mg base C) (O1 : Okk P w K mg base "lone" 8 ["number"] (spLone C)) (O2 : Okk P w K mg base "product_of" 8 ["one", "other"] (spProductOf C)) (O3 : Okk P w K mg base "power_of" 9 ["poly", "many"] (spPowerOf C))
    (O4 : Okk P w K mg base "sum_of" 8 ["one", "other"] (spSumOf C)) (O5 : Okk P w K mg base "times_of" 8 ["poly", "number"] (spTimesOf C)) : Okk P w K mg base "put_in_of" 10 ["poly", "one", "other"] (spPutInOf C) := by
  refine okk R sc_put_in_of (fun vs H Q E h => ?_) (fun f cdv A outer s H vs Q E hr h => ?_)
  · obtain ⟨v1, v2, v3, f, g, h, rfl, _⟩ := h
    rfl
  · obtain ⟨v1, v2, v3, f, g, h, rfl, h1, h2, h3, ⟨D, M, En, m, d, e, zf, zg, zh, le, dg, dh, ft, szf, szg, sz⟩, q⟩ := h
    have nd := sc_put_in_of.nd
    have mp : 0 < m := Nat.lt_of_lt_of_le zg.pos le
    refine ⟨_, pss_cons (ps_set (i := 3) nd rfl (Or.inl rfl) (pe_cl O1 hr (pa_cons pe_int pa_nil)))
      (pss_cons (ps_for PassesOwn.never rfl (pi_tup (pe_fld (pv 0) (by rfl))) (pg_tup rfl (pgs_cons (pg_name (i := 4) nd rfl (Or.inl rfl)) (pgs_cons (pg_name (i := 5) nd rfl (Or.inl rfl)) (pgs_cons (pg_name (i := 6) nd rfl (Or.inl rfl)) pgs_nil))))
        (pss_cons (ps_set (i := 7) nd rfl (Or.inl rfl) (pe_cl O2 hr (pa_cons (pe_cl O3 hr (pa_cons (pv 1) (pa_cons (pv 4) pa_nil))) (pa_cons (pe_cl O3 hr (pa_cons (pv 2) (pa_cons (pv 5) pa_nil))) pa_nil))))
        (pss_one (ps_set (i := 3) nd rfl (Or.inl rfl) (pe_cl O4 hr (pa_cons (pv 3) (pa_cons (pe_cl O5 hr (pa_cons (pv 7) (pa_cons (pv 6) pa_nil))) pa_nil)))))))
      (pss_one (ps_ret (pv 3)))), ?_⟩
    refine ⟨_, 0, rfl, .inl ⟨rfl, rfl⟩, fun u1 H1 s1 hu1 => ?_⟩
    obtain ⟨x, rfl, dx, qa, us, a1, a2, a3, lw⟩ := h1
    refine ⟨_, rfl, x, C, dx, _, _, rfl, s1 _ _ a1, PC.cls, PC.nt, rfl, qa, rfl, ⟨_, tupAt (s1 _ _ a2)⟩, ?_⟩
    refine for_tup (xs := us) (fun i σ H' => ∃ u o4 o5 o6 o7, σ = [some (.ref x), some v2, some v3, some u, o4, o5, o6, o7] ∧ Same H H' ∧ PolyV C H' u (putl g h ((terms f).take i)))
      ⟨u1, _, _, _, _, rfl, s1, hu1⟩ (fun i σ H' _ p => ?_) (fun i z σ H' ez p => ?_) (fun σ H' p => ?_)
    · obtain ⟨u, o4, o5, o6, o7, _, s', _⟩ := p
      exact tupAt (s' _ _ a2)
    · obtain ⟨u, o4, o5, o6, o7, rfl, s', hu⟩ := p
      obtain ⟨t, et, ht⟩ := tv_get a3 ez
      have tmm := List.mem_of_getElem? et
      have l6 := (terms_of tmm).1
      have ftt := ft t tmm
      obtain ⟨b, n, rfl, hb, hn⟩ := ht.same s'
      refine ⟨b, _, rfl, tupAt hb, rfl, _, _, rfl, _, _, rfl, _, _, rfl, rfl, ?_⟩
      refine ⟨_, rfl, _, rfl, v2, g, En, m, d, t.1, rfl, h2.same s', zg, mp, szg, dg, by omega, by omega, fun w1 H2 s2 hw1 => ?_⟩
      have s02 := s'.trans s2
      refine ⟨_, rfl, _, rfl, v3, h, En, m, e, t.2.1, rfl, h3.same s02, zh, mp, szg, dh, by omega, by omega, fun w2 H3 s3' hw2 => ?_⟩
      have pE : ∀ n, n ≤ 6 → Sz (En ^ n) (m ^ n) := fun n hn => ⟨Nat.lt_of_le_of_lt (pow_le_of zg.pos hn) szg.1, Nat.lt_of_le_of_lt (pow_le_of mp hn) szg.2⟩
      refine ⟨w1, w2, pw g t.1, pw h t.2.1, En ^ t.1, m ^ t.1, En ^ t.2.1, m ^ t.2.1, rfl, hw1.same s3', hw2, zg.pow _, zh.pow _, pE _ (by omega), pE _ (by omega), ?_, ?_, fun w3 H4 s4 hw3 => ?_⟩
      · rw [← Nat.pow_add, ← Nat.pow_add]
        exact pE _ l6
      · have d1 := dgn_le (pw_dg dg t.1)
        have d2 := dgn_le (pw_dg dh t.2.1)
        omega
      · have s24 := (s2.trans s3').trans s4
        have both := SC.both zg zh le l6
        refine ⟨_, rfl, _, rfl, _, rfl, w3, n, _, t.2.2, rfl, hw3, hn.same s24, (zf.sl.term tmm).nb szf.1 szf.2, SC.szt both szg, fun w4 H5 s5 hw4 => ?_⟩
        have szl : SL D M ((terms f).take i) := SL.pre (m := (terms f).drop i) (by rw [List.take_append_drop]; exact zf.sl)
        have low : Low ((terms f).take i) := fun r hr => low_terms f r (List.mem_of_mem_take hr)
        have zu : SC (D * En ^ 6) (M * m ^ 6) (putl g h ((terms f).take i)) := SC.putl zg zh le zf.pos low szl
        have zt0 := both.scl (zf.sl.term tmm)
        have zt : SC (D * En ^ 6) (M * m ^ 6) (scl (Pk.mul (pw g t.1) (pw h t.2.1)) t.2.2) := by
          rw [Nat.mul_comm D, Nat.mul_comm M]
          exact zt0
        refine ⟨u, w4, _, _, D * En ^ 6, M * m ^ 6, M * m ^ 6, rfl, hu.same (s24.trans s5), hw4, zu, zt, sz, fun w5 H6 s6 hw5 => ?_⟩
        refine ⟨w5, _, _, _, _, rfl, ((s'.trans s24).trans s5).trans s6, ?_⟩
        rw [take_snoc et, putl_snoc]
        exact hw5
    · obtain ⟨u, o4, o5, o6, o7, rfl, s', hu⟩ := p
      rw [Paired.length a3, List.take_length] at hu
      exact ⟨_, rfl, q _ _ s' hu⟩
/-! ### number_power, value_of -/
def spNumPow : Sp := fun vs H Q _ => ∃ v x E m, ∃ n : Nat, vs = [v, .int (n : Int)] ∧ NumV H v x ∧ IB E m x ∧ 0 < m ∧ Sz (E ^ 6) (m ^ 6) ∧ n ≤ 6 ∧ Out H Q fun v H' => NumV H' v (x ^ n)
theorem ok_number_power (R : Row K mg "number_power" (top 42) ["number", "many"]) (gr : mg "range" = none) (O : Okk P w K mg base "product" 3 ["one", "other"] spMul) : Okk P w K mg base "number_power" 4 ["number", "many"] spNumPow := by
  refine okk R sc_number_power (fun vs H Q E h => ?_) (fun f cdv A outer s H vs Q E hr h => ?_)
  · obtain ⟨v, x, E, m, n, rfl, _⟩ := h
    rfl
  · obtain ⟨v, x, En, m, n, rfl, hv, z, mp, sz, n6, q⟩ := h
    have nd := sc_number_power.nd
    refine ⟨_, pss_cons (ps_set (i := 2) nd rfl (Or.inl rfl) pe_int)
      (pss_cons (ps_for PassesOwn.never rfl (pi_range1 (by rfl) gr (pa_cons (pv 1) pa_nil)) (pg_name (i := 3) nd rfl (Or.inl rfl))
        (pss_one (ps_set (i := 2) nd rfl (Or.inl rfl) (pe_cl O hr (pa_cons (pv 2) (pa_cons (pv 0) pa_nil))))))
      (pss_one (ps_ret (pv 2)))), ?_⟩
    refine ⟨_, rfl, (n : Int), rfl, (r62 n6).1, (r62 n6).2, ?_⟩
    refine for_range (lo := 0) (n := n) (fun k σ H' => ∃ u o, σ = [some v, some (.int (n : Int)), some u, o] ∧ Same H H' ∧ NumV H' u (x ^ k)) ⟨_, _, rfl, Same.refl H, by rw [Rat.pow_zero]; exact .inl ⟨rfl, rfl⟩⟩ (fun k σ H' lt p => ?_) (fun σ H' p => ?_)
    · obtain ⟨u, o, rfl, s', hu⟩ := p
      have e1 : En ^ 1 ≤ En ^ 6 := Nat.pow_le_pow_right z.pos (by omega)
      have e2 : m ^ 1 ≤ m ^ 6 := Nat.pow_le_pow_right mp (by omega)
      rw [Nat.pow_one] at e1 e2
      refine ⟨_, rfl, _, rfl, u, v, x ^ k, x, rfl, hu, hv.same s', IB.sz (IB.pow z k) ⟨Nat.lt_of_le_of_lt (pow_le_of z.pos (by omega)) sz.1, Nat.lt_of_le_of_lt (pow_le_of mp (by omega)) sz.2⟩,
        IB.sz z ⟨Nat.lt_of_le_of_lt e1 sz.1, Nat.lt_of_le_of_lt e2 sz.2⟩, True.intro, fun u' H2 s2 hu' => ⟨u', _, rfl, s'.trans s2, ?_⟩⟩
      rw [Rat.pow_succ]
      exact hu'
    · obtain ⟨u, o, rfl, s', hu⟩ := p
      exact ⟨_, rfl, q _ _ s' hu⟩
def Val (f : Co) (x y : Rat) : Prop := ∃ D M E m, SC D M f ∧ IB E m x ∧ IB E m y ∧ E ≤ m ∧ Sz D M ∧ Sz (E ^ 6) (m ^ 6) ∧ Sz (D * E ^ 6) (M * m ^ 6)
def spValueOf (C : Addr) : Sp := fun vs H Q _ => ∃ v1 v2 f x y, vs = [v1, v2] ∧ PolyV C H v1 f ∧ PtV H v2 x y ∧ Val f x y ∧ Out H Q fun v H' => NumV H' v (ev f x y)
theorem ok_value_of (R : Row K mg "value_of" (top 43) ["poly", "point"]) (PC : PolyC P w K mg base C) (O1 : Okk P w K mg base "number_power" 4 ["number", "many"] spNumPow) (O2 : Okk P w K mg base "product" 3 ["one", "other"] spMul) (O3 : Okk P w K mg base "added" 3 ["one", "other"] spAdd) :
    Okk P w K mg base "value_of" 5 ["poly", "point"] (spValueOf C) := by
  refine okk R sc_value_of (fun vs H Q E h => ?_) (fun f cdv A outer s H vs Q E hr h => ?_)
  · obtain ⟨v1, v2, f, x, y, rfl, _⟩ := h
    rfl
  · obtain ⟨v1, v2, f, px, py, rfl, h1, ⟨pp, pa, pb, rfl, hp, hpa, hpb⟩, ⟨D, M, En, m, zf, zx, zy, le, szf, szp, sz⟩, q⟩ := h
    have nd := sc_value_of.nd
    have mp : 0 < m := Nat.lt_of_lt_of_le zx.pos le
    refine ⟨_, pss_cons (ps_set (i := 2) nd rfl (Or.inl rfl) pe_int)
      (pss_cons (ps_for PassesOwn.never rfl (pi_tup (pe_fld (pv 0) (by rfl))) (pg_tup rfl (pgs_cons (pg_name (i := 3) nd rfl (Or.inl rfl)) (pgs_cons (pg_name (i := 4) nd rfl (Or.inl rfl)) (pgs_cons (pg_name (i := 5) nd rfl (Or.inl rfl)) pgs_nil))))
        (pss_cons (ps_set (i := 6) nd rfl (Or.inl rfl) (pe_cl O2 hr (pa_cons (pe_cl O1 hr (pa_cons (pe_ix ix_tup (pv 1) pe_int (fun _ _ => rfl)) (pa_cons (pv 3) pa_nil))) (pa_cons (pe_cl O1 hr (pa_cons (pe_ix ix_tup (pv 1) pe_int (fun _ _ => rfl)) (pa_cons (pv 4) pa_nil))) pa_nil))))
        (pss_one (ps_set (i := 2) nd rfl (Or.inl rfl) (pe_cl O3 hr (pa_cons (pv 2) (pa_cons (pe_cl O2 hr (pa_cons (pv 5) (pa_cons (pv 6) pa_nil))) pa_nil)))))))
      (pss_one (ps_ret (pv 2)))), ?_⟩
    obtain ⟨x, rfl, dx, qa, us, a1, a2, a3, lw⟩ := h1
    refine ⟨_, rfl, x, C, dx, _, _, rfl, a1, PC.cls, PC.nt, rfl, qa, rfl, ⟨_, tupAt a2⟩, ?_⟩
    refine for_tup (xs := us) (fun i σ H' => ∃ u o3 o4 o5 o6, σ = [some (.ref x), some (.ref pp), some u, o3, o4, o5, o6] ∧ Same H H' ∧ NumV H' u (evl ((terms f).take i) px py))
      ⟨_, _, _, _, _, rfl, Same.refl H, .inl ⟨rfl, rfl⟩⟩ (fun i σ H' _ p => ?_) (fun i z σ H' ez p => ?_) (fun σ H' p => ?_)
    · obtain ⟨u, o3, o4, o5, o6, _, s', _⟩ := p
      exact tupAt (s' _ _ a2)
    · obtain ⟨u, o3, o4, o5, o6, rfl, s', hu⟩ := p
      obtain ⟨t, et, ht⟩ := tv_get a3 ez
      have tmm := List.mem_of_getElem? et
      have l6 := (terms_of tmm).1
      obtain ⟨b, n, rfl, hb, hn⟩ := ht.same s'
      refine ⟨b, _, rfl, tupAt hb, rfl, _, _, rfl, _, _, rfl, _, _, rfl, rfl, ?_⟩
      have pE : ∀ n, n ≤ 6 → Sz (En ^ n) (m ^ n) := fun n hn => ⟨Nat.lt_of_le_of_lt (pow_le_of zx.pos hn) szp.1, Nat.lt_of_le_of_lt (pow_le_of mp hn) szp.2⟩
      refine ⟨_, rfl, pp, _, 0, pa, rfl, rfl, tupAt (s' _ _ hp), rfl, _, rfl, pa, px, En, m, t.1, rfl, hpa.same s', zx, mp, szp, by omega, fun w1 H2 s2 hw1 => ?_⟩
      have s02 := s'.trans s2
      refine ⟨_, rfl, pp, _, 1, pb, rfl, rfl, tupAt (s02 _ _ hp), rfl, _, rfl, pb, py, En, m, t.2.1, rfl, hpb.same s02, zy, mp, szp, by omega, fun w2 H3 s3' hw2 => ?_⟩
      refine ⟨w1, w2, px ^ t.1, py ^ t.2.1, rfl, hw1.same s3', hw2, IB.sz (IB.pow zx _) (pE _ (by omega)), IB.sz (IB.pow zy _) (pE _ (by omega)), True.intro, fun w3 H4 s4 hw3 => ?_⟩
      have s24 := (s2.trans s3').trans s4
      refine ⟨_, rfl, _, rfl, _, rfl, n, w3, t.2.2, _, rfl, hn.same s24, hw3, (zf.sl.term tmm).nb szf.1 szf.2, IB.sz (pow_nat_lift le l6 zx zy) szp, True.intro, fun w4 H5 s5 hw4 => ?_⟩
      have pre : ∀ k, SL D M ((terms f).take k) := fun k => SL.pre (m := (terms f).drop k) (by rw [List.take_append_drop]; exact zf.sl)
      have low : ∀ k, Low ((terms f).take k) := fun k r hr => low_terms f r (List.mem_of_mem_take hr)
      refine ⟨u, w4, _, _, rfl, hu.same (s24.trans s5), hw4, IB.sz ((pre i).evl (low i) le zx zy) sz, IB.sz ((zf.sl.term tmm).mul (pow_nat_lift le l6 zx zy)) sz, True.intro, fun w5 H6 s6 hw5 => ?_⟩
      refine ⟨w5, _, _, _, _, rfl, ((s'.trans s24).trans s5).trans s6, ?_⟩
      have e : evl ((terms f).take (i + 1)) px py = evl ((terms f).take i) px py + t.2.2 * (px ^ t.1 * py ^ t.2.1) := by
        rw [take_snoc et, evl_append, evl_cons]
        show _ + (_ + (0 : Rat)) = _
        grind
      rw [e]
      exact hw5
    · obtain ⟨u, o3, o4, o5, o6, rfl, s', hu⟩ := p
      rw [Paired.length a3, List.take_length, evl_terms] at hu
      exact ⟨_, rfl, q _ _ s' hu⟩
end
end Kd

namespace Kd
open PySem PySem.Spec PyProof.Rows L2 Pk
/-! ### defs that are called by keywords too, these in the turned order -/
section
variable (P : Program) (w : World) (K : PySem.W.Frag) (mg : Str → Option Value) (base : Heap)
def OkW (x : Str) (k : Nat) (ps : List Str) (sp : Sp) : Prop := ∃ f fd, FnOk P w K mg base CX0 k f fd ps sp ∧ mg x = some (.ref f) ∧ PySem.W.keepIn K (.ref f) = true ∧ Binds K fd ps [] ∧ KBn K fd ps 0 ps.reverse (fun _ ws => ws.reverse) (fun _ zs => zs.reverse)
end
section
variable {P : Program} {w : World} {K : PySem.W.Frag} {mg : Str → Option Value} {base : Heap} {C : Addr}
theorem OkW.ok {x : Str} {k : Nat} {ps : List Str} {sp : Sp} (O : OkW P w K mg base x k ps sp) : Okk P w K mg base x k ps sp := by
  obtain ⟨f, fd, F, g, kp, b, _⟩ := O
  exact ⟨f, fd, F, g, kp, b⟩
theorem vals_rev : ∀ {zs : List V} {ws : List Value}, Vals zs ws → Vals zs.reverse ws.reverse
  | _, _, .nil => .nil
  | z :: zs, w :: ws, .cons h t => by
    rw [List.reverse_cons, List.reverse_cons]
    exact (vals_rev t).append (.cons h .nil)
def ByKw (x : Str) (st : Stmt) (ps : List Str) : Prop := ∀ (kV doc pm : Value) (an : Option Addr) (cdv ct : Value) (ws : List Value), ws.length = ps.reverse.length →
  bindArgs (PySem.W.fnOf x x (defArgs st) (defBody st) (defScope st) .none kV doc pm an cdv ct) ⟨[], ps.reverse.zip ws⟩ = pure (ps.zip ws.reverse)
theorem okW {x : Str} {st : Stmt} {N ps : List Str} {k : Nat} {sp : Sp} (R : Row K mg x st ps) (S : FnScope N ps (defScope st)) (hk : ByKw x st ps) (len : ∀ vs H Q E, sp vs H Q E → vs.length = ps.length)
    (hbody : ∀ (f : Addr) (cdv : Value) (A : Around) (outer : List Env) (s : Shared) (H : Hp) (vs : List V) (Q : VK) (E : XK), Room k (A.deeper (envOfC x (defScope st) s.heap.objs.size f cdv)) → sp vs H Q E →
      ∃ t, PSs (cxOf CX0 P w K mg base N x (defScope st) f cdv A outer s H E).nox (defBody st) t ∧ t { nx := fun _ H' => Q .non H', rt := Q } (start N vs) H) : OkW P w K mg base x (k + 1) ps sp := by
  obtain ⟨f, fd, F, g, b⟩ := R
  have kp := F.kp
  refine ⟨f, fd, F.ok S len fun cdv A outer s H vs Q E hr h => ?_, g, kp, b, ?_⟩
  · obtain ⟨t, h1, h2⟩ := hbody f cdv A outer s H vs Q E hr h
    exact ⟨t, h1.nox, h2⟩
  · obtain ⟨oc, od, dV, kV, doc, pm, an, cdv, ct, osl, rfl, lk, hcd, hD, _⟩ := F.ex
    rcases hD with ⟨_, rfl⟩ | ⟨e, _⟩
    · refine ⟨fun s us ws X l0 l1 => ?_, fun _ r => vals_rev r⟩
      obtain rfl := List.eq_nil_of_length_eq_zero l0
      exact .of_eq (hk kV doc pm an cdv ct ws l1)
    · exact absurd rfl e
end
section
variable {X : Cx}
theorem pe_clw {x : Str} {k j : Nat} {ps : List Str} {sp : Sp} {kws : List Keyword} {tk : TA} {p pos : Pos} (O : OkW X.prog X.w X.K X.mg X.base x k ps sp) (hr : Room j X.A) (hkw : PK X kws tk) (le : k ≤ j := by decide) (hg : Gl X x := by rfl)
    (hall : (backToKw pos (keywordEach kws X.env)).all (·.1.isSome) = true := by rfl) (hks : (backToKw pos (keywordEach kws X.env)).filterMap (·.1) = ps.reverse := by rfl) (hdb : (x == ("__debug__" : Str)) = false := by decide)
    (hpl : ((backTo pos (starEach [] X.env)).any (·.1) || (backToKw pos (keywordEach kws X.env)).any (·.1.isNone)) = false := by rfl) : PE X (.Call (.Name x p) [] kws pos) (tCallW ps.reverse.length sp (fun _ zs => zs.reverse) E0 tk) := by
  obtain ⟨f, fd, F, g, kp, b, kb⟩ := O
  exact pe_callW F (hr.mono le) hg g kp kb pass0 hkw hall hks hdb hpl
end
section
variable {P : Program} {w : World} {K : PySem.W.Frag} {mg : Str → Option Value} {base : Heap} {C : Addr}
/-! ### the sum, the product, the value -/
theorem ok_poly_sum (R : Row K mg "poly_sum" (top 44) ["one", "other"]) (O1 : Okk P w K mg base "need_poly" 1 ["value", "part"] (spNeedPoly C)) (O2 : Okk P w K mg base "sum_of" 8 ["one", "other"] (spSumOf C)) : Okk P w K mg base "poly_sum" 9 ["one", "other"] (spSumOf C) := by
  refine okk R sc_poly_sum (fun vs H Q E h => ?_) (fun f cdv A outer s H vs Q E hr h => ?_)
  · obtain ⟨v1, v2, f, g, D, M, N, rfl, _⟩ := h
    rfl
  · obtain ⟨v1, v2, f, g, D, M, N, rfl, h1, h2, rest⟩ := h
    refine ⟨_, pss_cons (ps_expr (pe_cl O1 hr (pa_cons (pv 0) (pa_cons pe_str pa_nil)))) (pss_one (ps_ret (pe_cl O2 hr (pa_cons (pv 0) (pa_cons (pe_cl O1 hr (pa_cons (pv 1) (pa_cons pe_str pa_nil))) pa_nil))))), ?_⟩
    exact ⟨_, rfl, _, _, f, rfl, h1, _, rfl, _, rfl, _, _, g, rfl, h2, v1, v2, f, g, D, M, N, rfl, h1, h2, rest⟩
theorem ok_poly_product (R : Row K mg "poly_product" (top 45) ["one", "other"]) (O1 : Okk P w K mg base "need_poly" 1 ["value", "part"] (spNeedPoly C)) (O2 : Okk P w K mg base "product_of" 8 ["one", "other"] (spProductOf C)) : Okk P w K mg base "poly_product" 9 ["one", "other"] (spProductOf C) := by
  refine okk R sc_poly_product (fun vs H Q E h => ?_) (fun f cdv A outer s H vs Q E hr h => ?_)
  · obtain ⟨v1, v2, f, g, D, M, E, N, rfl, _⟩ := h
    rfl
  · obtain ⟨v1, v2, f, g, D, M, E', N, rfl, h1, h2, rest⟩ := h
    refine ⟨_, pss_cons (ps_expr (pe_cl O1 hr (pa_cons (pv 0) (pa_cons pe_str pa_nil)))) (pss_one (ps_ret (pe_cl O2 hr (pa_cons (pv 0) (pa_cons (pe_cl O1 hr (pa_cons (pv 1) (pa_cons pe_str pa_nil))) pa_nil))))), ?_⟩
    exact ⟨_, rfl, _, _, f, rfl, h1, _, rfl, _, rfl, _, _, g, rfl, h2, v1, v2, f, g, D, M, E', N, rfl, h1, h2, rest⟩
def spValue (C : Addr) : Sp := fun vs H Q _ => ∃ v1 v2 f x y, vs = [v1, v2] ∧ PolyV C H v1 f ∧ Pt2 H v2 x y ∧ Val f x y ∧ Out H Q fun v H' => NumV H' v (ev f x y)
theorem ok_value (R : Row K mg "value" (top 46) ["poly", "point"]) (O1 : Okk P w K mg base "need_poly" 1 ["value", "part"] (spNeedPoly C)) (O2 : Okk P w K mg base "need_point" 5 ["value", "part"] spNeedPoint) (O3 : Okk P w K mg base "value_of" 5 ["poly", "point"] (spValueOf C)) : Okk P w K mg base "value" 6 ["poly", "point"] (spValue C) := by
  refine okk R sc_value (fun vs H Q E h => ?_) (fun f cdv A outer s H vs Q E hr h => ?_)
  · obtain ⟨v1, v2, f, x, y, rfl, _⟩ := h
    rfl
  · obtain ⟨v1, v2, f, x, y, rfl, h1, h2, vl, q⟩ := h
    refine ⟨_, pss_cons (ps_expr (pe_cl O1 hr (pa_cons (pv 0) (pa_cons pe_str pa_nil)))) (pss_one (ps_ret (pe_cl O3 hr (pa_cons (pv 0) (pa_cons (pe_cl O2 hr (pa_cons (pv 1) (pa_cons pe_str pa_nil))) pa_nil))))), ?_⟩
    exact ⟨_, rfl, _, _, f, rfl, h1, _, rfl, _, rfl, _, _, x, y, rfl, h2, fun v H2 s2 hv => ⟨v1, v, f, x, y, rfl, h1.same s2, hv, vl, q.go s2⟩⟩
/-! ### put_in, moved, turned_poly, stretched -/
theorem ok_put_in (R : Row K mg "put_in" (top 48) ["poly", "one", "other"]) (O1 : Okk P w K mg base "need_poly" 1 ["value", "part"] (spNeedPoly C)) (O2 : Okk P w K mg base "put_in_of" 10 ["poly", "one", "other"] (spPutInOf C)) : OkW P w K mg base "put_in" 11 ["poly", "one", "other"] (spPutInOf C) := by
  refine okW R sc_put_in (fun kV doc pm an cdv ct ws l => match ws, l with | [_, _, _], _ => rfl) (fun vs H Q E h => ?_) (fun f cdv A outer s H vs Q E hr h => ?_)
  · obtain ⟨v1, v2, v3, f, g, h, rfl, _⟩ := h
    rfl
  · obtain ⟨v1, v2, v3, f, g, h, rfl, h1, h2, h3, rest⟩ := h
    refine ⟨_, pss_cons (ps_expr (pe_cl O1 hr (pa_cons (pv 0) (pa_cons pe_str pa_nil)))) (pss_cons (ps_expr (pe_cl O1 hr (pa_cons (pv 1) (pa_cons pe_str pa_nil))))
      (pss_one (ps_ret (pe_cl O2 hr (pa_cons (pv 0) (pa_cons (pv 1) (pa_cons (pe_cl O1 hr (pa_cons (pv 2) (pa_cons pe_str pa_nil))) pa_nil))))))), ?_⟩
    exact ⟨_, rfl, _, _, f, rfl, h1, _, rfl, _, _, g, rfl, h2, _, rfl, _, rfl, _, rfl, _, _, h, rfl, h3, v1, v2, v3, f, g, h, rfl, h1, h2, h3, rest⟩
theorem num_int (H : Hp) (i : Int) : NumV H (.int i) (i : Rat) := .inl ⟨rfl, rfl⟩
def spMoved (C : Addr) : Sp := fun vs H Q _ => ∃ v p f a b, vs = [v, p] ∧ PolyV C H v f ∧ Pt2 H p a b ∧ Put f (lin 1 0 (-a)) (lin 0 1 (-b)) ∧ Out H Q fun v H' => PolyV C H' v (put f (lin 1 0 (-a)) (lin 0 1 (-b)))
theorem ok_moved (R : Row K mg "moved" (top 49) ["poly", "point"]) (O1 : Okk P w K mg base "need_poly" 1 ["value", "part"] (spNeedPoly C)) (O2 : Okk P w K mg base "need_point" 5 ["value", "part"] spNeedPoint) (O3 : Okk P w K mg base "turned" 2 ["number"] spTurned)
    (O4 : Okk P w K mg base "line" 8 ["across", "up", "number"] (spLine C)) (O5 : Okk P w K mg base "put_in_of" 10 ["poly", "one", "other"] (spPutInOf C)) : OkW P w K mg base "moved" 11 ["poly", "point"] (spMoved C) := by
  refine okW R sc_moved (fun kV doc pm an cdv ct ws l => match ws, l with | [_, _], _ => rfl) (fun vs H Q E h => ?_) (fun f cdv A outer s H vs Q E hr h => ?_)
  · obtain ⟨v, p, f, a, b, rfl, _⟩ := h
    rfl
  · obtain ⟨v, p, f, a, b, rfl, h1, h2, pt, q⟩ := h
    have nd := sc_moved.nd
    refine ⟨_, pss_cons (ps_expr (pe_cl O1 hr (pa_cons (pv 0) (pa_cons pe_str pa_nil)))) (pss_cons (ps_asg (pe_cl O2 hr (pa_cons (pv 1) (pa_cons pe_str pa_nil))) (pg_tup rfl (pgs_cons (pg_name (i := 2) nd rfl (Or.inl rfl)) (pgs_cons (pg_name (i := 3) nd rfl (Or.inl rfl)) pgs_nil))))
      (pss_one (ps_ret (pe_cl O5 hr (pa_cons (pv 0) (pa_cons (pe_cl O4 hr (pa_cons pe_int (pa_cons pe_int (pa_cons (pe_cl O3 hr (pa_cons (pv 2) pa_nil)) pa_nil)))) (pa_cons (pe_cl O4 hr (pa_cons pe_int (pa_cons pe_int (pa_cons (pe_cl O3 hr (pa_cons (pv 3) pa_nil)) pa_nil)))) pa_nil))))))), ?_⟩
    refine ⟨_, rfl, _, _, f, rfl, h1, _, rfl, _, _, a, b, rfl, h2, fun u H1 s1 ⟨pp, va, vb, e, hp, ha, hb⟩ => ?_⟩
    subst e
    refine ⟨pp, _, rfl, tupAt hp, rfl, _, _, rfl, _, _, rfl, rfl, ?_⟩
    refine ⟨_, rfl, _, rfl, va, a, rfl, ha, fun u1 H2 s2 hu1 => ⟨_, _, u1, 1, 0, -a, rfl, num_int H2 1, num_int H2 0, hu1, fun l1 H3 s3' hl1 => ?_⟩⟩
    refine ⟨_, rfl, vb, b, rfl, hb.same (s2.trans s3'), fun u2 H4 s4 hu2 => ⟨_, _, u2, 0, 1, -b, rfl, num_int H4 0, num_int H4 1, hu2, fun l2 H5 s5 hl2 => ?_⟩⟩
    have s35 := s4.trans s5
    have s15 := (s2.trans s3').trans s35
    exact ⟨v, l1, l2, f, _, _, rfl, h1.same (s1.trans s15), hl1.same s35, hl2, pt, q.go (s1.trans s15)⟩
def spTurnedPoly (C : Addr) : Sp := fun vs H Q _ => ∃ v p f a b, vs = [v, p] ∧ PolyV C H v f ∧ Pt2 H p a b ∧ TurnP a b ∧ Put f (lin a b 0) (lin (-b) a 0) ∧ Out H Q fun v H' => PolyV C H' v (put f (lin a b 0) (lin (-b) a 0))
theorem ok_turned_poly (R : Row K mg "turned_poly" (top 50) ["poly", "turn"]) (O1 : Okk P w K mg base "need_poly" 1 ["value", "part"] (spNeedPoly C)) (O2 : Okk P w K mg base "need_turn" 6 ["value", "part"] spNeedTurn) (O3 : Okk P w K mg base "turned" 2 ["number"] spTurned)
    (O4 : Okk P w K mg base "line" 8 ["across", "up", "number"] (spLine C)) (O5 : Okk P w K mg base "put_in_of" 10 ["poly", "one", "other"] (spPutInOf C)) : OkW P w K mg base "turned_poly" 11 ["poly", "turn"] (spTurnedPoly C) := by
  refine okW R sc_turned_poly (fun kV doc pm an cdv ct ws l => match ws, l with | [_, _], _ => rfl) (fun vs H Q E h => ?_) (fun f cdv A outer s H vs Q E hr h => ?_)
  · obtain ⟨v, p, f, a, b, rfl, _⟩ := h
    rfl
  · obtain ⟨v, p, f, a, b, rfl, h1, h2, tp, pt, q⟩ := h
    have nd := sc_turned_poly.nd
    refine ⟨_, pss_cons (ps_expr (pe_cl O1 hr (pa_cons (pv 0) (pa_cons pe_str pa_nil)))) (pss_cons (ps_asg (pe_cl O2 hr (pa_cons (pv 1) (pa_cons pe_str pa_nil))) (pg_tup rfl (pgs_cons (pg_name (i := 2) nd rfl (Or.inl rfl)) (pgs_cons (pg_name (i := 3) nd rfl (Or.inl rfl)) pgs_nil))))
      (pss_one (ps_ret (pe_cl O5 hr (pa_cons (pv 0) (pa_cons (pe_cl O4 hr (pa_cons (pv 2) (pa_cons (pv 3) (pa_cons pe_int pa_nil)))) (pa_cons (pe_cl O4 hr (pa_cons (pe_cl O3 hr (pa_cons (pv 3) pa_nil)) (pa_cons (pv 2) (pa_cons pe_int pa_nil)))) pa_nil))))))), ?_⟩
    refine ⟨_, rfl, _, _, f, rfl, h1, _, rfl, _, _, a, b, rfl, h2, tp, fun u H1 s1 ⟨pp, va, vb, e, hp, ha, hb⟩ => ?_⟩
    subst e
    refine ⟨pp, _, rfl, tupAt hp, rfl, _, _, rfl, _, _, rfl, rfl, ?_⟩
    refine ⟨_, rfl, _, rfl, _, rfl, _, _, _, a, b, 0, rfl, ha, hb, num_int H1 0, fun l1 H3 s3' hl1 => ?_⟩
    refine ⟨_, rfl, vb, b, rfl, hb.same s3', fun u2 H4 s4 hu2 => ⟨_, rfl, u2, _, _, -b, a, 0, rfl, hu2, ha.same (s3'.trans s4), num_int H4 0, fun l2 H5 s5 hl2 => ?_⟩⟩
    have s35 := s4.trans s5
    have s15 := s3'.trans s35
    exact ⟨v, l1, l2, f, _, _, rfl, h1.same (s1.trans s15), hl1.same s35, hl2, pt, q.go (s1.trans s15)⟩
def spStretched (C : Addr) : Sp := fun vs H Q _ => ∃ v n f r, vs = [v, n] ∧ PolyV C H v f ∧ NumV H n r ∧ r ≠ 0 ∧ NB 4000 r ∧ Put f (lin (1 / r) 0 0) (lin 0 (1 / r) 0) ∧ Out H Q fun v H' => PolyV C H' v (put f (lin (1 / r) 0 0) (lin 0 (1 / r) 0))
theorem nb_one : NB 4000 1 := ⟨by decide, by decide⟩
theorem ok_stretched (R : Row K mg "stretched" (top 51) ["poly", "number"]) (O1 : Okk P w K mg base "need_poly" 1 ["value", "part"] (spNeedPoly C)) (O2 : Okk P w K mg base "need_number" 4 ["value", "part"] spNeedNumber) (O3 : Okk P w K mg base "part_by" 3 ["one", "other"] spDiv)
    (O4 : Okk P w K mg base "line" 8 ["across", "up", "number"] (spLine C)) (O5 : Okk P w K mg base "put_in_of" 10 ["poly", "one", "other"] (spPutInOf C)) : OkW P w K mg base "stretched" 11 ["poly", "number"] (spStretched C) := by
  refine okW R sc_stretched (fun kV doc pm an cdv ct ws l => match ws, l with | [_, _], _ => rfl) (fun vs H Q E h => ?_) (fun f cdv A outer s H vs Q E hr h => ?_)
  · obtain ⟨v, n, f, r, rfl, _⟩ := h
    rfl
  · obtain ⟨v, n, f, r, rfl, h1, h2, r0, br, pt, q⟩ := h
    have nd := sc_stretched.nd
    refine ⟨_, pss_cons (ps_expr (pe_cl O1 hr (pa_cons (pv 0) (pa_cons pe_str pa_nil)))) (pss_cons (ps_set (i := 2) nd rfl (Or.inl rfl) (pe_cl O2 hr (pa_cons (pv 1) (pa_cons pe_str pa_nil))))
      (pss_cons (ps_if (pt_cmpR (op_eqD hr.units) (pv 2) pe_int (nomark _)) pss_never pss_nil)
      (pss_cons (ps_set (i := 3) nd rfl (Or.inl rfl) (pe_cl O3 hr (pa_cons pe_int (pa_cons (pv 2) pa_nil))))
      (pss_one (ps_ret (pe_cl O5 hr (pa_cons (pv 0) (pa_cons (pe_cl O4 hr (pa_cons (pv 3) (pa_cons pe_int (pa_cons pe_int pa_nil)))) (pa_cons (pe_cl O4 hr (pa_cons pe_int (pa_cons (pv 3) (pa_cons pe_int pa_nil)))) pa_nil))))))))), ?_⟩
    refine ⟨_, rfl, _, _, f, rfl, h1, _, rfl, _, _, r, rfl, h2, fun u H1 s1 hu => ?_⟩
    refine ⟨_, rfl, _, _, hu.dp, .int 0, numD_shaped _, rfl, _, rfl, ?_⟩
    rw [numD_zero, decide_eq_false r0]
    refine iteF ⟨_, rfl, _, _, 1, r, rfl, num_int H1 1, hu, nb_one, br, r0, fun u2 H2 s2 hu2 => ?_⟩
    refine ⟨_, rfl, _, rfl, _, _, _, 1 / r, 0, 0, rfl, hu2, num_int H2 0, num_int H2 0, fun l1 H3 s3' hl1 => ?_⟩
    refine ⟨_, rfl, _, _, _, 0, 1 / r, 0, rfl, num_int H3 0, hu2.same s3', num_int H3 0, fun l2 H4 s4 hl2 => ?_⟩
    have s14 := ((s1.trans s2).trans s3').trans s4
    exact ⟨v, l1, l2, f, _, _, rfl, h1.same s14, hl1.same s4, hl2, pt, q.go s14⟩
/-! ### slope -/
def spSlope (C : Addr) : Sp := fun vs H Q _ => ∃ v z f g, vs = [v, .str z] ∧ PolyV C H v f ∧ ((z = ("x" : Str) ∧ g = dx f) ∨ (z = ("y" : Str) ∧ g = dy f)) ∧ (∀ t ∈ terms f, NB 4000 t.2.2) ∧ Out H Q fun v H' => PolyV C H' v g
theorem nb_nat {n : Nat} (h : n ≤ 6) : NB 4000 (n : Rat) := ⟨by
    show (n : Int).natAbs < 2 ^ 4000
    rw [Int.natAbs_natCast]
    exact Nat.lt_of_le_of_lt h (by decide), by
    show 1 < 2 ^ 4000
    decide⟩
theorem dxl_snoc (l : List Pk.Tm) (t : Pk.Tm) : dxl (l ++ [t]) = dxl l ++ (if t.1 = 0 then [] else [(t.1 - 1, t.2.1, (t.1 : Rat) * t.2.2)]) := by
  unfold dxl
  rw [List.filterMap_append, List.filterMap_cons, List.filterMap_nil]
  by_cases h : t.1 = 0
  · rw [if_pos h, if_pos h]
  · rw [if_neg h, if_neg h]
theorem dyl_snoc (l : List Pk.Tm) (t : Pk.Tm) : dyl (l ++ [t]) = dyl l ++ (if t.2.1 = 0 then [] else [(t.1, t.2.1 - 1, (t.2.1 : Rat) * t.2.2)]) := by
  unfold dyl
  rw [List.filterMap_append, List.filterMap_cons, List.filterMap_nil]
  by_cases h : t.2.1 = 0
  · rw [if_pos h, if_pos h]
  · rw [if_neg h, if_neg h]
theorem dxl_new {l : List Pk.Tm} {t : Pk.Tm} (h : pr t ∉ l.map pr) (ht : t.1 ≠ 0) : (t.1 - 1, t.2.1) ∉ (dxl l).map pr := fun m => by
  obtain ⟨s, hs, e⟩ := List.mem_map.mp m
  obtain ⟨u, hu, eu⟩ := List.mem_filterMap.mp hs
  split at eu
  · cases eu
  · rename_i hz
    have es := Option.some.inj eu
    subst es
    unfold pr at e
    injection e with e1 e2
    refine h (List.mem_map.mpr ⟨u, hu, ?_⟩)
    unfold pr
    dsimp only at e1 e2
    have : u.1 = t.1 := by omega
    rw [this, e2]
theorem dyl_new {l : List Pk.Tm} {t : Pk.Tm} (h : pr t ∉ l.map pr) (ht : t.2.1 ≠ 0) : (t.1, t.2.1 - 1) ∉ (dyl l).map pr := fun m => by
  obtain ⟨s, hs, e⟩ := List.mem_map.mp m
  obtain ⟨u, hu, eu⟩ := List.mem_filterMap.mp hs
  split at eu
  · cases eu
  · rename_i hz
    have es := Option.some.inj eu
    subst es
    unfold pr at e
    injection e with e1 e2
    refine h (List.mem_map.mpr ⟨u, hu, ?_⟩)
    unfold pr
    dsimp only at e1 e2
    have : u.2.1 = t.2.1 := by omega
    rw [this, e1]
theorem ok_slope (R : Row K mg "slope" (top 47) ["poly", "unknown"]) (gi : mg "isinstance" = none) (gs : mg "str" = none) (gu : ∃ a, mg "UNKNOWNS" = some (.ref a) ∧ ∀ H, SqT K H a [.str "x", .str "y"]) (PC : PolyC P w K mg base C)
    (O1 : Okk P w K mg base "need_poly" 1 ["value", "part"] (spNeedPoly C)) (O2 : Okk P w K mg base "of_powers" 7 ["found"] (spOfPowers C)) (O3 : Okk P w K mg base "product" 3 ["one", "other"] spMul) : OkW P w K mg base "slope" 8 ["poly", "unknown"] (spSlope C) := by
  refine okW R sc_slope (fun kV doc pm an cdv ct ws l => match ws, l with | [_, _], _ => rfl) (fun vs H Q E h => ?_) (fun f cdv A outer s H vs Q E hr h => ?_)
  · obtain ⟨v, z, f, g, rfl, _⟩ := h
    rfl
  · obtain ⟨v, z, f, g, rfl, hv, hz, bt, q⟩ := h
    obtain ⟨au, gU, hU⟩ := gu
    have nd := sc_slope.nd
    refine ⟨_, pss_cons (ps_expr (pe_cl O1 hr (pa_cons (pv 0) (pa_cons pe_str pa_nil))))
      (pss_cons (ps_if (PW.pt (pw_or (pt_not (pt_val (pe_callB call_isi (by rfl) gi (by decide +kernel) (pa_cons (pv 1) (pa_cons (pe_bltn (v := .ty "str") (by rfl) gs (by decide +kernel) rfl) pa_nil))))) (pw_or1 (pt_cmpR op_notIn_seq (pv 1) (pe_glob (v := .ref au) (by rfl) gU rfl) (by rfl))))) pss_never pss_nil)
      (pss_cons (ps_if (pt_cmpR op_eq (pv 1) pe_str (nomark _))
        (pss_one (ps_ret (pe_cl O2 hr (pa_cons (pe_dcT (own := [("i", 2), ("j", 3), ("number", 4)]) (g := gTup K 3 (gCons (gName 2) (gCons (gName 3) (gCons (gName 4) gNil)))) (tt := tTest (tOp (rI0 fun i j => .bl (decide (j < i))) (tVar 2) (tC (V.int 0)))) hr.units0 rfl nd (pi_tup (pe_fld (pv 0) (by rfl))) (blkOk_by (N := ["poly", "unknown", "i", "j", "number"]) (sc := defScope (top 47)) (by decide +kernel))
          (fun _ _ _ _ _ => pg_tup rfl (pgs_cons (pg_name (i := 2) nd rfl (Or.inl rfl)) (pgs_cons (pg_name (i := 3) nd rfl (Or.inl rfl)) (pgs_cons (pg_name (i := 4) nd rfl (Or.inl rfl)) pgs_nil)))) (fun _ _ _ _ _ => pts_one (pt_cmpR op_gt (pv 2) pe_int (nomark _)))
          (fun _ _ _ _ _ => pe_tup (pa_cons (pe_op op_sub (pv 2) pe_int) (pa_cons (pv 3) pa_nil))) (fun _ _ _ _ _ => pe_cl O3 hr (pa_cons (pv 2) (pa_cons (pv 4) pa_nil)))) pa_nil)))) pss_nil)
      (pss_one (ps_ret (pe_cl O2 hr (pa_cons (pe_dcT (own := [("i", 2), ("j", 3), ("number", 4)]) (g := gTup K 3 (gCons (gName 2) (gCons (gName 3) (gCons (gName 4) gNil)))) (tt := tTest (tOp (rI0 fun i j => .bl (decide (j < i))) (tVar 3) (tC (V.int 0)))) hr.units0 rfl nd (pi_tup (pe_fld (pv 0) (by rfl))) (blkOk_by (N := ["poly", "unknown", "i", "j", "number"]) (sc := defScope (top 47)) (by decide +kernel))
          (fun _ _ _ _ _ => pg_tup rfl (pgs_cons (pg_name (i := 2) nd rfl (Or.inl rfl)) (pgs_cons (pg_name (i := 3) nd rfl (Or.inl rfl)) (pgs_cons (pg_name (i := 4) nd rfl (Or.inl rfl)) pgs_nil)))) (fun _ _ _ _ _ => pts_one (pt_cmpR op_gt (pv 3) pe_int (nomark _)))
          (fun _ _ _ _ _ => pe_tup (pa_cons (pv 2) (pa_cons (pe_op op_sub (pv 3) pe_int) pa_nil))) (fun _ _ _ _ _ => pe_cl O3 hr (pa_cons (pv 3) (pa_cons (pv 4) pa_nil)))) pa_nil)))))), ?_⟩
    rcases hz with ⟨rfl, rfl⟩ | ⟨rfl, rfl⟩
    · refine ⟨_, rfl, _, _, f, rfl, hv, ?_⟩
      obtain ⟨x, rfl, dx', qa, us, a1, a2, a3, lw⟩ := hv
      refine ⟨_, rfl, _, _, _, _, true, rfl, .ty _, .base (.str _), kit_ty (by decide +kernel), true, rfl, iteF ?_⟩
      refine ⟨_, rfl, au, _, rfl, .inr (hU H), rfl, rfl, false, by decide, iteF ?_⟩
      refine ⟨_, rfl, rfl, _, rfl, ?_⟩
      rw [show decide (V.str ("x" : Str) = V.str ("x" : Str)) = true from decide_eq_true rfl]
      refine iteT ?_
      dsimp only [tRet, tCall, tCons, tNext, tSeq]
      refine dc_tupF (xs := us) a2 (fun R r => ⟨_, rfl, x, C, dx', _, _, rfl, a1, PC.cls, PC.nt, rfl, r⟩) (fun D i H' => Same H H' ∧ ∃ kvs, H' D = some (.dT kvs) ∧ DV H' kvs (co (dxl ((terms f).take i))))
        (fun D nD => ⟨same_upd nD, [], upd_same, DV.nil0 _⟩) (fun D i H' nD p => p.1) (fun D i z H' nD e pv => ?_) (fun D H3 nD pv => ?_)
      · obtain ⟨sm, kvs, hD, dv⟩ := pv
        obtain ⟨t, et, ht⟩ := tv_get a3 e
        have tmm := List.mem_of_getElem? et
        have t6 : t.1 ≤ 6 := by have := (terms_of tmm).1; omega
        obtain ⟨b, m, rfl, hb, hm⟩ := ht.same sm
        refine ⟨b, _, rfl, tupAt hb, rfl, _, _, rfl, _, _, rfl, _, _, rfl, rfl, rfl, ?_⟩
        refine ⟨_, rfl, _, _, rfl, rfl, _, rfl, ?_⟩
        have sn := dxl_snoc ((terms f).take i) t
        rw [← take_snoc et] at sn
        by_cases c : t.1 = 0
        · rw [decide_eq_false (by omega)]
          refine iteF ⟨sm, kvs, hD, ?_⟩
          rw [if_pos c, List.append_nil] at sn
          rw [sn]
          exact dv
        · rw [decide_eq_true (by omega)]
          have ek : ((t.1 : Int) - 1) = ((t.1 - 1 : Nat) : Int) := by omega
          rw [if_neg c] at sn
          refine iteT ⟨_, rfl, _, _, rfl, rfl, _, rfl, s2, fun p np => ?_⟩
          have s4 : Same H' (upd H' p (.tup [.int ((t.1 : Int) - 1), .int (t.2.1 : Int)])) := same_upd np
          have hp : (upd H' p (.tup [.int ((t.1 : Int) - 1), .int (t.2.1 : Int)])) p = some (.tup ((k2 (t.1 - 1, t.2.1)).map kV)) := by rw [upd_same, ek]; rfl
          dsimp only at hp s4 ⊢
          generalize upd H' p (.tup [.int ((t.1 : Int) - 1), .int (t.2.1 : Int)]) = H4 at s4 hp
          refine ⟨_, rfl, _, rfl, _, m, (t.1 : Rat), t.2.2, rfl, num_int H4 (t.1 : Int), hm.same s4, nb_nat t6, bt t tmm, True.intro, fun v' H5 s5 hv' => ?_⟩
          have s6 := s4.trans s5
          have hD5 := s6 _ _ hD
          refine ⟨kvs, _, p, rfl, s5 _ _ hp, hD5, l28' (by have := dv.len; omega), sov (sm.trans s6) nD, _, upd_same, ?_⟩
          rw [sn, ← setC_new (dxl_new (nodup_take (terms_nd f) et) c)]
          exact ((dv.same s6).put (i := t.1 - 1) (j := t.2.1) (by have := (terms_of tmm).1; omega) hv').kp (num_notD hD5) (Kp.upd _)
      · obtain ⟨sm, kvs, hD, dv⟩ := pv
        rw [Paired.length a3, List.take_length, co_dxl, co_terms_eq lw] at dv
        exact ⟨D, kvs, _, rfl, hD, dv, q.go sm⟩
    · refine ⟨_, rfl, _, _, f, rfl, hv, ?_⟩
      obtain ⟨x, rfl, dx', qa, us, a1, a2, a3, lw⟩ := hv
      refine ⟨_, rfl, _, _, _, _, true, rfl, .ty _, .base (.str _), kit_ty (by decide +kernel), true, rfl, iteF ?_⟩
      refine ⟨_, rfl, au, _, rfl, .inr (hU H), rfl, rfl, false, by decide, iteF ?_⟩
      refine ⟨_, rfl, rfl, _, rfl, ?_⟩
      rw [show decide (V.str ("y" : Str) = V.str ("x" : Str)) = false from decide_eq_false (fun e => absurd (V.str.inj e) (by decide))]
      refine iteF ?_
      dsimp only [tRet, tCall, tCons, tNext, tSeq]
      refine dc_tupF (xs := us) a2 (fun R r => ⟨_, rfl, x, C, dx', _, _, rfl, a1, PC.cls, PC.nt, rfl, r⟩) (fun D i H' => Same H H' ∧ ∃ kvs, H' D = some (.dT kvs) ∧ DV H' kvs (co (dyl ((terms f).take i))))
        (fun D nD => ⟨same_upd nD, [], upd_same, DV.nil0 _⟩) (fun D i H' nD p => p.1) (fun D i z H' nD e pv => ?_) (fun D H3 nD pv => ?_)
      · obtain ⟨sm, kvs, hD, dv⟩ := pv
        obtain ⟨t, et, ht⟩ := tv_get a3 e
        have tmm := List.mem_of_getElem? et
        have t6 : t.2.1 ≤ 6 := by have := (terms_of tmm).1; omega
        obtain ⟨b, m, rfl, hb, hm⟩ := ht.same sm
        refine ⟨b, _, rfl, tupAt hb, rfl, _, _, rfl, _, _, rfl, _, _, rfl, rfl, rfl, ?_⟩
        refine ⟨_, rfl, _, _, rfl, rfl, _, rfl, ?_⟩
        have sn := dyl_snoc ((terms f).take i) t
        rw [← take_snoc et] at sn
        by_cases c : t.2.1 = 0
        · rw [decide_eq_false (by omega)]
          refine iteF ⟨sm, kvs, hD, ?_⟩
          rw [if_pos c, List.append_nil] at sn
          rw [sn]
          exact dv
        · rw [decide_eq_true (by omega)]
          have ek : ((t.2.1 : Int) - 1) = ((t.2.1 - 1 : Nat) : Int) := by omega
          rw [if_neg c] at sn
          refine iteT ⟨_, rfl, _, rfl, _, _, rfl, rfl, s2, fun p np => ?_⟩
          have s4 : Same H' (upd H' p (.tup [.int (t.1 : Int), .int ((t.2.1 : Int) - 1)])) := same_upd np
          have hp : (upd H' p (.tup [.int (t.1 : Int), .int ((t.2.1 : Int) - 1)])) p = some (.tup ((k2 (t.1, t.2.1 - 1)).map kV)) := by rw [upd_same, ek]; rfl
          dsimp only at hp s4 ⊢
          generalize upd H' p (.tup [.int (t.1 : Int), .int ((t.2.1 : Int) - 1)]) = H4 at s4 hp
          refine ⟨_, rfl, _, rfl, _, m, (t.2.1 : Rat), t.2.2, rfl, num_int H4 (t.2.1 : Int), hm.same s4, nb_nat t6, bt t tmm, True.intro, fun v' H5 s5 hv' => ?_⟩
          have s6 := s4.trans s5
          have hD5 := s6 _ _ hD
          refine ⟨kvs, _, p, rfl, s5 _ _ hp, hD5, l28' (by have := dv.len; omega), sov (sm.trans s6) nD, _, upd_same, ?_⟩
          rw [sn, ← setC_new (dyl_new (nodup_take (terms_nd f) et) c)]
          exact ((dv.same s6).put (i := t.1) (j := t.2.1 - 1) (by have := (terms_of tmm).1; omega) hv').kp (num_notD hD5) (Kp.upd _)
      · obtain ⟨sm, kvs, hD, dv⟩ := pv
        rw [Paired.length a3, List.take_length, co_dyl, co_terms_eq lw] at dv
        exact ⟨D, kvs, _, rfl, hD, dv, q.go sm⟩
end
end Kd

namespace Kd
open PySem PySem.Spec PyProof.Rows L2 Pk
/-! ### the lathe -/
def Lat (H : Hp) (a c : Addr) (i r : Int) (ns : List Int) : Prop := H a = some (.lst [.ref c, .int i, .int r]) ∧ H c = some (.lst (ns.map V.int)) ∧ ns.length ≤ 63
def LatheV (H : Hp) (a : Addr) (t : Nat) : Prop := ∃ c i r ns, Lat H a c i r ns ∧ 0 ≤ i ∧ i ≤ (t : Int) ∧ 0 ≤ r
theorem Lat.ne {H : Hp} {a c : Addr} {i r : Int} {ns : List Int} (h : Lat H a c i r ns) : c ≠ a := fun e => by
  obtain ⟨h1, h2, _⟩ := h
  rw [e, h1] at h2
  have h3 := HO.lst.inj (Option.some.inj h2)
  cases ns with
  | nil => cases h3
  | cons n ns => injection h3 with h4 _; cases h4
theorem Lat.put {H : Hp} {a c : Addr} {i r : Int} {ns : List Int} (h : Lat H a c i r ns) (i' r' : Int) : Lat (upd H a (.lst [.ref c, .int i', .int r'])) a c i' r' ns :=
  ⟨upd_same, by rw [upd_ne h.ne]; exact h.2.1, h.2.2⟩
theorem LatheV.same {H H' : Hp} {a : Addr} {t : Nat} (h : LatheV H a t) (s : Same H H') : LatheV H' a t := by
  obtain ⟨c, i, r, ns, ⟨h1, h2, h3⟩, h4⟩ := h
  exact ⟨c, i, r, ns, ⟨s _ _ h1, s _ _ h2, h3⟩, h4⟩
theorem LatheV.mono {H : Hp} {a : Addr} {t t' : Nat} (h : LatheV H a t) (le : t ≤ t') : LatheV H a t' := by
  obtain ⟨c, i, r, ns, h1, h4, h5, h6⟩ := h
  exact ⟨c, i, r, ns, h1, h4, by omega, h6⟩
theorem LatheV.noT {H : Hp} {a : Addr} {t : Nat} (h : LatheV H a t) : NoT H a := by
  obtain ⟨c, i, r, ns, ⟨h1, _⟩, _⟩ := h
  exact lst_notD h1
theorem LatheV.noI {H : Hp} {a : Addr} {t : Nat} (h : LatheV H a t) : ∀ C dx fs, H a ≠ some (.ins C dx fs) := by
  obtain ⟨c, i, r, ns, ⟨h1, _⟩, _⟩ := h
  intro C dx fs z
  rw [h1] at z
  cases z
section
variable {P : Program} {w : World} {K : PySem.W.Frag} {mg : Str → Option Value} {base : Heap} {C : Addr}
def spLathe (K : PySem.W.Frag) : Sp := fun vs H Q _ => ∃ (a : Addr) (ns : List Int), vs = [.ref a] ∧ SqL K H a (ns.map V.int) ∧ ns.length ≤ 63 ∧ ∀ H' p, Same H H' → LatheV H' p 0 → Q (.ref p) H'
theorem cut_ints (ns : List Int) (lo hi : Option Int) : ∃ ms : List Int, cutV (ns.map V.int) lo hi = ms.map V.int ∧ ms.length ≤ ns.length := by
  unfold cutV
  refine ⟨_, by rw [← List.map_drop, ← List.map_take], ?_⟩
  rw [List.length_take, List.length_drop]
  omega
theorem ok_lathe (R : Row K mg "_law_lathe" (top 53) ["_law_script"]) (gn : mg "int" = none) : Okk P w K mg base "_law_lathe" 1 ["_law_script"] (spLathe K) := by
  refine okk R sc_law_lathe (fun vs H Q E h => ?_) (fun f cdv A outer s H vs Q E hr h => ?_)
  · obtain ⟨a, ns, rfl, _⟩ := h
    rfl
  · obtain ⟨a, ns, rfl, hS, n63, q⟩ := h
    have nd := sc_law_lathe.nd
    refine ⟨_, pss_one (ps_ret (pe_lst (pa_cons (pe_lc (own := [("_law_cell", 1)]) (g := gName 1) (tt := tYes) rfl nd (pi_list (pe_slice sl_list (pv 0) po_none (po_some pe_int))) (blkOk_by (N := ["_law_script", "_law_cell"]) (sc := defScope (top 53)) (by decide +kernel))
      (fun _ _ _ _ _ => pg_name (i := 1) nd rfl (Or.inl rfl)) (fun _ _ _ _ _ => pts_nil) (fun _ _ _ _ _ => pe_callTy call_int1 (by rfl) gn (by decide +kernel) (pa_cons (pv 1) pa_nil))) (pa_cons pe_int (pa_cons pe_int pa_nil))))), ?_⟩
    obtain ⟨ms, em, lm⟩ := cut_ints ns none (some 60)
    dsimp only [tRet, tLst, tCons]
    refine lc_lstE (Pr := fun xs _ => xs = ms.map V.int) (fun R go => ⟨_, rfl, 60, rfl, a, _, rfl, hS, fun p np => go p _ _ (same_upd np) upd_same em⟩)
      (fun xs H2 D i H' => Same H2 H' ∧ H' D = some (.lst ((ms.take i).map V.int))) (fun xs H2 D s2 pr nD => ⟨same_upd nD, upd_same⟩) (fun xs H2 D i H' nD p => p.1) (fun xs H2 D i z H' s2 pr nD e p => ?_) (fun xs H2 D H' s2 pr nD p => ?_)
    · subst pr
      rw [List.getElem?_map] at e
      obtain ⟨m, em2, rfl⟩ := Option.map_eq_some_iff.mp e
      have lt := (List.getElem?_eq_some_iff.mp em2).1
      refine ⟨rfl, ?_⟩
      refine ⟨_, rfl, .inl ⟨m, rfl, _, p.2, ?_, sov p.1 nD, ?_⟩⟩
      · rw [List.length_map, List.length_take]
        exact Nat.lt_of_lt_of_le (show min i ms.length < 64 by omega) (sz (by omega))
      · rw [upd_same, take_snoc em2, List.map_append]
        rfl
    · subst pr
      have hD : H' D = some (.lst (ms.map V.int)) := by
        have := p.2
        rw [List.length_map, List.take_length] at this
        exact this
      refine ⟨s3, fun l nl => ?_⟩
      have s4 : Same H (upd H' l (.lst [.ref D, .int 0, .int 0])) := Same.upd (s2.trans p.1) nl
      exact q _ l s4 ⟨D, 0, 0, ms, ⟨upd_same, same_upd nl _ _ hD, by omega⟩, by omega, by omega, by omega⟩
/-! ### a draw -/
def spSpin : Sp := fun vs H Q _ => ∃ a t, ∃ m : Int, vs = [.ref a, .int m] ∧ LatheV H a t ∧ t ≤ 10000 ∧ 1 ≤ m ∧ m ≤ 1000 ∧ ∀ H' r, Kp a H H' → LatheV H' a (t + 1) → 0 ≤ r → r < m → Q (.int r) H'
theorem intsD {H : Hp} : ∀ (ns : List Int), DpAll K H (ns.map V.int) (ns.map PyData.int)
  | [] => .nil
  | n :: ns => .cons (.int n) (intsD ns)
theorem intsD_shaped (ns : List Int) : SeqAt.shaped (.list (ns.map PyData.int)) = true := by
  have h : PyData.canLayAll0 (ns.map PyData.int) = true ∧ PyData.depthAll (ns.map PyData.int) ≤ 0 := by
    induction ns with
    | nil => exact ⟨rfl, by decide⟩
    | cons n ns ih =>
      refine ⟨?_, ?_⟩
      · show (true && PyData.canLayAll0 (ns.map PyData.int)) = true
        rw [ih.1]
        rfl
      · show max 0 (PyData.depthAll (ns.map PyData.int)) ≤ 0
        omega
  show (PyData.canLayAll0 (ns.map PyData.int) && decide (PyData.depthAll (ns.map PyData.int) + 1 ≤ 64)) = true
  rw [h.1, decide_eq_true (by omega)]
  rfl
theorem ix_ints {ns : List Int} {j : Int} (h0 : 0 ≤ j) (h1 : j < ns.length) : ∃ n : Int, atI (ns.map V.int) j = some (.int n) := by
  have lt : j.toNat < ns.length := by omega
  refine ⟨ns[j.toNat], ?_⟩
  unfold atI ixN
  rw [if_pos h0, List.length_map, if_pos h1]
  show (ns.map V.int)[j.toNat]? = _
  rw [List.getElem?_map, List.getElem?_eq_getElem lt]
  rfl
theorem pw18 : CPow 10 18 := ⟨by decide, by decide, by decide⟩
theorem spin_one (x : Int) {i : Int} (i0 : 0 ≤ i) (i4 : i ≤ 10000) : CPow (x % 2147483587 + 43963 * i + 5869) 5 ∧
    CPow ((x % 2147483587 + 43963 * i + 5869) ^ (5 : Int).toNat % 2147483629 * (2 * i + 6343) + 72277 * i * i + 43963) 3 := by
  have a1 := Int.emod_nonneg x (show (2147483587 : Int) ≠ 0 by decide)
  have a2 := Int.emod_lt_of_pos x (show (0 : Int) < 2147483587 by decide)
  refine ⟨⟨by decide, by decide, by omega⟩, ⟨by decide, by decide, ?_⟩⟩
  generalize (x % 2147483587 + 43963 * i + 5869) ^ (5 : Int).toNat = y
  have b1 := Int.emod_nonneg y (show (2147483629 : Int) ≠ 0 by decide)
  have b2 := Int.emod_lt_of_pos y (show (0 : Int) < 2147483629 by decide)
  have c1 : y % 2147483629 * (2 * i + 6343) ≤ 2147483629 * 26343 := Int.mul_le_mul (by omega) (by omega) (by omega) (by omega)
  have c2 : 0 ≤ y % 2147483629 * (2 * i + 6343) := Int.mul_nonneg b1 (by omega)
  have d1 : 72277 * i * i ≤ 722770000 * 10000 := Int.mul_le_mul (by omega) (by omega) (by omega) (by omega)
  have d2 : 0 ≤ 72277 * i * i := Int.mul_nonneg (by omega) (by omega)
  omega
theorem ok_spin (R : Row K mg "_law_spin" (top 54) ["_law_lathe_here", "_law_many"]) (gn : mg "int" = none) (gl : mg "len" = none) (ga : mg "abs" = none) : Okk P w K mg base "_law_spin" 1 ["_law_lathe_here", "_law_many"] spSpin := by
  refine okk R sc_law_spin (fun vs H Q E h => ?_) (fun f cdv A outer s H vs Q E hr h => ?_)
  · obtain ⟨a, t, m, rfl, _⟩ := h
    rfl
  · obtain ⟨a, t, m, rfl, ⟨c, i, r, ns, lt, i0, it, r0⟩, t4, m1, m2, q⟩ := h
    have nd := sc_law_spin.nd
    refine ⟨_, pss_cons (ps_if (pt_cmpR op_gt (pe_ix ix_list (pv 0) pe_int (fun _ _ => rfl)) pe_int (nomark _)) (pss_cons (ps_set (i := 2) nd rfl (Or.inl rfl) (pe_callTy call_int1 (by rfl) gn (by decide +kernel) (pa_cons (pe_ix ix_list (pv 0) pe_int (fun _ _ => rfl)) pa_nil)))
        (pss_cons (ps_asg (pe_op op_fdiv (pv 2) (pv 1)) (pg_sub (pv 0) pe_int set_list)) (pss_one (ps_ret (pe_op op_mod (pe_callTy call_int1 (by rfl) gn (by decide +kernel) (pa_cons (pv 2) pa_nil)) (pv 1)))))) pss_nil)
      (pss_cons (ps_set (i := 3) nd rfl (Or.inl rfl) (pe_ix ix_list (pv 0) pe_int (fun _ _ => rfl)))
      (pss_cons (ps_asg (pe_op op_add (pv 3) pe_int) (pg_sub (pv 0) pe_int set_list))
      (pss_cons (ps_set (i := 4) nd rfl (Or.inl rfl) (pe_op op_add (pe_op op_mul pe_int (pv 3)) pe_int))
      (pss_cons (ps_if (pt_cmpR (op_neD hr.units) (pe_ix ix_list (pv 0) pe_int (fun _ _ => rfl)) (pe_lst pa_nil) (nomark _))
        (pss_one (ps_set (i := 4) nd rfl (Or.inl rfl) (pe_ix ix_list (pe_ix ix_list (pv 0) pe_int (fun _ _ => rfl)) (pe_op op_mod (pe_callTy call_int1 (by rfl) gn (by decide +kernel) (pa_cons (pv 3) pa_nil)) (pe_callB call_len_seq (by rfl) gl PySem.boot_len (pa_cons (pe_ix ix_list (pv 0) pe_int (fun _ _ => rfl)) pa_nil))) (fun _ _ => rfl)))) pss_nil)
      (pss_cons (ps_if (PW.pt (pw_and (pt_cmpR op_lt (pv 3) (pe_callB call_len_seq (by rfl) gl PySem.boot_len (pa_cons (pe_ix ix_list (pv 0) pe_int (fun _ _ => rfl)) pa_nil)) (nomark _)) (pw_and1 (pt_cmpR op_ge (pe_callB call_abs (by rfl) ga (by decide +kernel) (pa_cons (pv 4) pa_nil)) (pe_op op_pow pe_int pe_int) (nomark _)))))
        (pss_cons (ps_set (i := 2) nd rfl (Or.inl rfl) (pe_op op_add (pe_op op_mul pe_int (pe_op op_sub (pe_callB call_abs (by rfl) ga (by decide +kernel) (pa_cons (pv 4) pa_nil)) (pe_op op_pow pe_int pe_int))) (pe_callTy call_int1 (by rfl) gn (by decide +kernel) (pa_cons (pe_cmpR op_lt (pv 4) pe_int (nomark _)) pa_nil))))
        (pss_cons (ps_asg (pe_op op_fdiv (pe_callTy call_int1 (by rfl) gn (by decide +kernel) (pa_cons (pv 2) pa_nil)) (pv 1)) (pg_sub (pv 0) pe_int set_list)) (pss_one (ps_ret (pe_op op_mod (pe_callTy call_int1 (by rfl) gn (by decide +kernel) (pa_cons (pv 2) pa_nil)) (pv 1)))))) pss_nil)
      (pss_cons (ps_set (i := 5) nd rfl (Or.inl rfl) (pe_op op_mod (pe_callTy call_int1 (by rfl) gn (by decide +kernel) (pa_cons (pe_op op_pow (pe_op op_add (pe_op op_add (pe_op op_mod (pe_callTy call_int1 (by rfl) gn (by decide +kernel) (pa_cons (pv 4) pa_nil)) pe_int) (pe_op op_mul pe_int (pv 3))) pe_int) pe_int) pa_nil)) pe_int))
      (pss_cons (ps_set (i := 5) nd rfl (Or.inl rfl) (pe_op op_mod (pe_callTy call_int1 (by rfl) gn (by decide +kernel) (pa_cons (pe_op op_pow (pe_op op_add (pe_op op_add (pe_op op_mul (pv 5) (pe_op op_add (pe_op op_mul pe_int (pv 3)) pe_int)) (pe_op op_mul (pe_op op_mul pe_int (pv 3)) (pv 3))) pe_int) pe_int) pa_nil)) pe_int))
      (pss_one (ps_ret (pe_op op_mod (pe_callTy call_int1 (by rfl) gn (by decide +kernel) (pa_cons (pe_op op_fdiv (pv 5) pe_int) pa_nil)) (pv 1))))))))))), ?_⟩
    have md : CDiv r m := ⟨by omega, by omega⟩
    refine ⟨_, rfl, a, _, 2, .int r, rfl, rfl, lstAt lt.1, rfl, r, 0, rfl, rfl, _, rfl, ite2 (fun c1 => ?_) (fun c1 => ?_)⟩
    · have rp : 0 < r := of_decide_eq_true c1
      refine ⟨_, rfl, a, _, 2, .int r, rfl, rfl, lstAt lt.1, rfl, .inl ⟨r, rfl, ?_⟩⟩
      refine ⟨_, rfl, _, rfl, r, m, rfl, rfl, md, _, rfl, a, _, 2, 2, rfl, rfl, lt.1, rfl, ?_⟩
      refine ⟨_, rfl, .inl ⟨r, rfl, _, rfl, r, m, rfl, rfl, by omega, ?_⟩⟩
      exact q _ _ (Kp.upd _) ⟨c, i, r / m, ns, lt.put i (r / m), i0, by omega, Int.ediv_nonneg r0 (by omega)⟩ (Int.emod_nonneg _ (by omega)) (Int.emod_lt_of_pos _ (by omega))
    · refine ⟨_, rfl, a, _, 1, .int i, rfl, rfl, lstAt lt.1, rfl, ?_⟩
      refine ⟨_, rfl, _, _, rfl, rfl, _, rfl, a, _, 1, 1, rfl, rfl, lt.1, rfl, ?_⟩
      have l2 := lt.put (i + 1) r
      have k2' : Kp a H (upd H a (.lst [.ref c, .int (i + 1), .int r])) := Kp.upd _
      show tSeq _ _ _ _ (upd H a (.lst [.ref c, .int (i + 1), .int r]))
      generalize upd H a (.lst [.ref c, .int (i + 1), .int r]) = H2 at l2 k2'
      have i4 : i ≤ 10000 := by omega
      refine ⟨_, rfl, _, _, rfl, rfl, .inl ⟨by decide, by decide⟩, _, _, rfl, rfl, ?_⟩
      refine ⟨_, rfl, a, _, 0, .ref c, rfl, rfl, lstAt l2.1, rfl, sz (by decide), fun e ne => ?_⟩
      have s3' : Same H2 (upd H2 e (.lst [])) := same_upd ne
      have he : (upd H2 e (.lst [])) e = some (.lst []) := upd_same
      have l2 : Lat (upd H2 e (.lst [])) a c (i + 1) r ns := ⟨s3' _ _ l2.1, s3' _ _ l2.2.1, l2.2.2⟩
      have k2' : Kp a H (upd H2 e (.lst [])) := k2'.trans (Kp.of s3')
      generalize upd H2 e (.lst []) = H3 at l2 k2' he
      refine ⟨_, _, .lst (lstAt l2.2.1) (intsD ns), .lst (lstAt he) .nil, intsD_shaped ns, rfl, _, rfl, ite2 (fun c2 => ?_) (fun c2 => ?_)⟩
      · have nn : ns ≠ [] := fun z => by
          subst z
          exact absurd c2 (by decide)
        have np : 0 < ns.length := List.length_pos_iff.mpr nn
        have npm : (0 : Int) < (((ns.map V.int).length : Nat) : Int) := by rw [List.length_map]; omega
        obtain ⟨n, en⟩ := ix_ints (ns := ns) (j := i % (((ns.map V.int).length : Nat) : Int)) (Int.emod_nonneg _ (by omega)) (by
          have := Int.emod_lt_of_pos i npm
          rw [List.length_map] at this ⊢
          exact this)
        refine ⟨_, rfl, a, _, 0, .ref c, rfl, rfl, lstAt l2.1, rfl, _, rfl, .inl ⟨i, rfl, _, rfl, a, _, 0, .ref c, rfl, rfl, lstAt l2.1, rfl, c, _, rfl, .inl (lstAt l2.2.1), _, _, rfl, rfl, npm, c, _, _, _, rfl, rfl, lstAt l2.2.1, en, ?_⟩⟩
        dsimp only [tNext, gName]
        refine ⟨_, rfl, _, rfl, a, _, 0, .ref c, rfl, rfl, lstAt l2.1, rfl, c, _, rfl, .inl (lstAt l2.2.1), _, _, rfl, rfl, _, rfl, ite2 (fun _ => ?_) (fun _ => ?_)⟩
        · refine ⟨_, rfl, _, rfl, _, _, rfl, rfl, pw18, _, _, rfl, rfl, _, rfl, ite2 (fun c3 => ?_) (fun _ => ?_)⟩
          · have big := of_decide_eq_true c3
            refine ⟨_, rfl, _, rfl, _, _, rfl, rfl, pw18, _, _, rfl, rfl, _, _, rfl, rfl, .inl ⟨by decide, by decide⟩, _, rfl, _, _, rfl, rfl, .inr ⟨_, rfl, _, _, rfl, rfl, ?_⟩⟩
            refine ⟨_, rfl, .inl ⟨_, rfl, _, rfl, _, _, rfl, rfl, md, _, rfl, a, _, 2, 2, rfl, rfl, l2.1, rfl, ?_⟩⟩
            refine ⟨_, rfl, .inl ⟨_, rfl, _, rfl, _, _, rfl, rfl, by omega, ?_⟩⟩
            have l3 := l2.put (i + 1) ((2 * ((if (n) < 0 then -(n) else (n)) - 10 ^ (18 : Int).toNat) + if decide ((n) < 0) = true then 1 else 0) / m)
            refine q _ _ (k2'.trans (Kp.upd _)) ⟨c, i + 1, _, ns, l3, by omega, by omega, ?_⟩ (Int.emod_nonneg _ (by omega)) (Int.emod_lt_of_pos _ (by omega))
            exact Int.ediv_nonneg (by split <;> omega) (by omega)
          · dsimp only [tNext]
            obtain ⟨p1, p2⟩ := spin_one (n) i0 i4
            refine ⟨_, rfl, .inl ⟨_, rfl, _, _, rfl, rfl, show (0 : Int) < 2147483587 by decide, _, rfl, _, _, rfl, rfl, .inl ⟨by decide, by decide⟩, _, _, rfl, rfl, _, _, rfl, rfl, _, _, rfl, rfl, p1, .inl ⟨_, rfl, _, _, rfl, rfl, show (0 : Int) < 2147483629 by decide, ?_⟩⟩⟩
            refine ⟨_, rfl, _, rfl, _, _, rfl, rfl, .inl ⟨by decide, by decide⟩, _, _, rfl, rfl, _, _, rfl, rfl, .inr ⟨by omega, by omega⟩, _, rfl, _, _, rfl, rfl, .inl ⟨by decide, by decide⟩, _, rfl, _, _, rfl, rfl, .inr ⟨by omega, by omega⟩, _, _, rfl, rfl, _, _, rfl, rfl, _, _, rfl, rfl, p2, .inl ⟨_, rfl, _, _, rfl, rfl, show (0 : Int) < 2147483549 by decide, ?_⟩⟩
            refine ⟨_, rfl, _, _, rfl, rfl, ⟨by decide, by decide⟩, .inl ⟨_, rfl, _, rfl, _, _, rfl, rfl, by omega, ?_⟩⟩
            exact q _ _ k2' ⟨c, i + 1, r, ns, l2, by omega, by omega, r0⟩ (Int.emod_nonneg _ (by omega)) (Int.emod_lt_of_pos _ (by omega))
        · refine iteF ?_
          dsimp only [tNext]
          obtain ⟨p1, p2⟩ := spin_one (n) i0 i4
          refine ⟨_, rfl, .inl ⟨_, rfl, _, _, rfl, rfl, show (0 : Int) < 2147483587 by decide, _, rfl, _, _, rfl, rfl, .inl ⟨by decide, by decide⟩, _, _, rfl, rfl, _, _, rfl, rfl, _, _, rfl, rfl, p1, .inl ⟨_, rfl, _, _, rfl, rfl, show (0 : Int) < 2147483629 by decide, ?_⟩⟩⟩
          refine ⟨_, rfl, _, rfl, _, _, rfl, rfl, .inl ⟨by decide, by decide⟩, _, _, rfl, rfl, _, _, rfl, rfl, .inr ⟨by omega, by omega⟩, _, rfl, _, _, rfl, rfl, .inl ⟨by decide, by decide⟩, _, rfl, _, _, rfl, rfl, .inr ⟨by omega, by omega⟩, _, _, rfl, rfl, _, _, rfl, rfl, _, _, rfl, rfl, p2, .inl ⟨_, rfl, _, _, rfl, rfl, show (0 : Int) < 2147483549 by decide, ?_⟩⟩
          refine ⟨_, rfl, _, _, rfl, rfl, ⟨by decide, by decide⟩, .inl ⟨_, rfl, _, rfl, _, _, rfl, rfl, by omega, ?_⟩⟩
          exact q _ _ k2' ⟨c, i + 1, r, ns, l2, by omega, by omega, r0⟩ (Int.emod_nonneg _ (by omega)) (Int.emod_lt_of_pos _ (by omega))
      · dsimp only [tNext]
        refine ⟨_, rfl, _, rfl, a, _, 0, .ref c, rfl, rfl, lstAt l2.1, rfl, c, _, rfl, .inl (lstAt l2.2.1), _, _, rfl, rfl, _, rfl, ite2 (fun _ => ?_) (fun _ => ?_)⟩
        · refine ⟨_, rfl, _, rfl, _, _, rfl, rfl, pw18, _, _, rfl, rfl, _, rfl, ite2 (fun c3 => ?_) (fun _ => ?_)⟩
          · have big := of_decide_eq_true c3
            refine ⟨_, rfl, _, rfl, _, _, rfl, rfl, pw18, _, _, rfl, rfl, _, _, rfl, rfl, .inl ⟨by decide, by decide⟩, _, rfl, _, _, rfl, rfl, .inr ⟨_, rfl, _, _, rfl, rfl, ?_⟩⟩
            refine ⟨_, rfl, .inl ⟨_, rfl, _, rfl, _, _, rfl, rfl, md, _, rfl, a, _, 2, 2, rfl, rfl, l2.1, rfl, ?_⟩⟩
            refine ⟨_, rfl, .inl ⟨_, rfl, _, rfl, _, _, rfl, rfl, by omega, ?_⟩⟩
            have l3 := l2.put (i + 1) ((2 * ((if (72277 * i + 5869) < 0 then -(72277 * i + 5869) else (72277 * i + 5869)) - 10 ^ (18 : Int).toNat) + if decide ((72277 * i + 5869) < 0) = true then 1 else 0) / m)
            refine q _ _ (k2'.trans (Kp.upd _)) ⟨c, i + 1, _, ns, l3, by omega, by omega, ?_⟩ (Int.emod_nonneg _ (by omega)) (Int.emod_lt_of_pos _ (by omega))
            exact Int.ediv_nonneg (by split <;> omega) (by omega)
          · dsimp only [tNext]
            obtain ⟨p1, p2⟩ := spin_one (72277 * i + 5869) i0 i4
            refine ⟨_, rfl, .inl ⟨_, rfl, _, _, rfl, rfl, show (0 : Int) < 2147483587 by decide, _, rfl, _, _, rfl, rfl, .inl ⟨by decide, by decide⟩, _, _, rfl, rfl, _, _, rfl, rfl, _, _, rfl, rfl, p1, .inl ⟨_, rfl, _, _, rfl, rfl, show (0 : Int) < 2147483629 by decide, ?_⟩⟩⟩
            refine ⟨_, rfl, _, rfl, _, _, rfl, rfl, .inl ⟨by decide, by decide⟩, _, _, rfl, rfl, _, _, rfl, rfl, .inr ⟨by omega, by omega⟩, _, rfl, _, _, rfl, rfl, .inl ⟨by decide, by decide⟩, _, rfl, _, _, rfl, rfl, .inr ⟨by omega, by omega⟩, _, _, rfl, rfl, _, _, rfl, rfl, _, _, rfl, rfl, p2, .inl ⟨_, rfl, _, _, rfl, rfl, show (0 : Int) < 2147483549 by decide, ?_⟩⟩
            refine ⟨_, rfl, _, _, rfl, rfl, ⟨by decide, by decide⟩, .inl ⟨_, rfl, _, rfl, _, _, rfl, rfl, by omega, ?_⟩⟩
            exact q _ _ k2' ⟨c, i + 1, r, ns, l2, by omega, by omega, r0⟩ (Int.emod_nonneg _ (by omega)) (Int.emod_lt_of_pos _ (by omega))
        · refine iteF ?_
          dsimp only [tNext]
          obtain ⟨p1, p2⟩ := spin_one (72277 * i + 5869) i0 i4
          refine ⟨_, rfl, .inl ⟨_, rfl, _, _, rfl, rfl, show (0 : Int) < 2147483587 by decide, _, rfl, _, _, rfl, rfl, .inl ⟨by decide, by decide⟩, _, _, rfl, rfl, _, _, rfl, rfl, _, _, rfl, rfl, p1, .inl ⟨_, rfl, _, _, rfl, rfl, show (0 : Int) < 2147483629 by decide, ?_⟩⟩⟩
          refine ⟨_, rfl, _, rfl, _, _, rfl, rfl, .inl ⟨by decide, by decide⟩, _, _, rfl, rfl, _, _, rfl, rfl, .inr ⟨by omega, by omega⟩, _, rfl, _, _, rfl, rfl, .inl ⟨by decide, by decide⟩, _, rfl, _, _, rfl, rfl, .inr ⟨by omega, by omega⟩, _, _, rfl, rfl, _, _, rfl, rfl, _, _, rfl, rfl, p2, .inl ⟨_, rfl, _, _, rfl, rfl, show (0 : Int) < 2147483549 by decide, ?_⟩⟩
          refine ⟨_, rfl, _, _, rfl, rfl, ⟨by decide, by decide⟩, .inl ⟨_, rfl, _, rfl, _, _, rfl, rfl, by omega, ?_⟩⟩
          exact q _ _ k2' ⟨c, i + 1, r, ns, l2, by omega, by omega, r0⟩ (Int.emod_nonneg _ (by omega)) (Int.emod_lt_of_pos _ (by omega))
end
end Kd

namespace Kd
open PySem PySem.Spec PyProof.Rows L2 Pk
section
variable {P : Program} {w : World} {K : PySem.W.Frag} {mg : Str → Option Value} {base : Heap} {C : Addr}
theorem NumV.kpl {a : Addr} {t : Nat} {H H' : Hp} {v : V} {r : Rat} (h : NumV H v r) (l : LatheV H a t) (k : Kp a H H') : NumV H' v r := h.kp l.noT k
def spOneOf : Sp := fun vs H Q _ => ∃ a t s xs, vs = [.ref a, .ref s] ∧ LatheV H a t ∧ t ≤ 10000 ∧ s ≠ a ∧ H s = some (.lst xs) ∧ 1 ≤ xs.length ∧ xs.length ≤ 1000 ∧ ∀ (H' : Hp) (k : Nat) (x : V), Kp a H H' → LatheV H' a (t + 1) → xs[k]? = some x → Q x H'
theorem ok_one_of (R : Row K mg "_law_one_of" (top 55) ["_law_lathe_here", "_law_some_here"]) (gl : mg "len" = none) (O : Okk P w K mg base "_law_spin" 1 ["_law_lathe_here", "_law_many"] spSpin) : Okk P w K mg base "_law_one_of" 2 ["_law_lathe_here", "_law_some_here"] spOneOf := by
  refine okk R sc_law_one_of (fun vs H Q E h => ?_) (fun f cdv A outer s H vs Q E hr h => ?_)
  · obtain ⟨a, t, s, xs, rfl, _⟩ := h
    rfl
  · obtain ⟨a, t, l, xs, rfl, hl, t4, ne, hs, x1, x2, q⟩ := h
    refine ⟨_, pss_one (ps_ret (pe_ix ix_list (pv 1) (pe_cl O hr (pa_cons (pv 0) (pa_cons (pe_callB call_len_seq (by rfl) gl PySem.boot_len (pa_cons (pv 1) pa_nil)) pa_nil))) (fun _ _ => rfl))), ?_⟩
    refine ⟨_, rfl, _, rfl, _, rfl, l, _, rfl, .inl (lstAt hs), a, t, _, rfl, hl, t4, by omega, by omega, fun H' r k hl' r0 r1 => ?_⟩
    have lt : r.toNat < xs.length := by omega
    refine ⟨l, xs, r, xs[r.toNat], rfl, rfl, lstAt (k _ _ ne hs), ?_, q H' r.toNat _ k hl' (List.getElem?_eq_getElem lt)⟩
    unfold atI ixN
    rw [if_pos r0, if_pos r1]
    exact List.getElem?_eq_getElem lt
/-! ### a number, a point, a turn -/
def spSome : Sp := fun vs H Q _ => ∃ a t, vs = [.ref a] ∧ LatheV H a t ∧ t ≤ 9000 ∧ ∀ H' v r, Kp a H H' → LatheV H' a (t + 4) → NumV H' v r → IB 60 (2 ^ 71) r → Q v H'
theorem ib_int (i : Int) (h : i.natAbs ≤ 100) : IB 60 (2 ^ 71) (i : Rat) := by
  have h1 : IB 1 100 (i : Rat) := ⟨by decide, It.int i, by
    have : ra (i : Rat) ≤ ((100 : Nat) : Rat) := by
      unfold ra
      split
      · have : -(i : Rat) = ((-i : Int) : Rat) := by simp
        rw [this]
        exact_mod_cast (show -i ≤ 100 by omega)
      · exact_mod_cast (show i ≤ 100 by omega)
    simpa using this⟩
  exact (h1.lift (E := 60) (by decide)).mono (by decide)
theorem ib_div (a : Int) (b : Nat) (ha : a.natAbs ≤ 7) (b1 : 1 ≤ b) (b6 : b ≤ 6) : IB 60 (2 ^ 71) (Rat.divInt a (b : Int)) := by
  have b0 : (b : Int) ≠ 0 := by omega
  have bq : (b : Rat) ≠ 0 := fun z => absurd (Rat.natCast_eq_zero_iff.mp z) (by omega)
  have e : Rat.divInt a (b : Int) * (b : Rat) = (a : Rat) := by
    rw [Rat.divInt_eq_div]
    exact Rat.div_mul_cancel bq
  have hb : ∃ k : Nat, b * k = 60 ∧ k ≤ 60 := by
    have : b = 1 ∨ b = 2 ∨ b = 3 ∨ b = 4 ∨ b = 5 ∨ b = 6 := by omega
    rcases this with rfl | rfl | rfl | rfl | rfl | rfl
    · exact ⟨60, rfl, by decide⟩
    · exact ⟨30, rfl, by decide⟩
    · exact ⟨20, rfl, by decide⟩
    · exact ⟨15, rfl, by decide⟩
    · exact ⟨12, rfl, by decide⟩
    · exact ⟨10, rfl, by decide⟩
  obtain ⟨k, hk, k60⟩ := hb
  have h7 : ra (a : Rat) ≤ ((7 : Nat) : Rat) := by
    unfold ra
    split
    · have : -(a : Rat) = ((-a : Int) : Rat) := by simp
      rw [this]
      exact_mod_cast (show -a ≤ 7 by omega)
    · exact_mod_cast (show a ≤ 7 by omega)
  have h1 : IB b 7 (Rat.divInt a (b : Int)) := ⟨by omega, ⟨a, e⟩, by
    have : ra (Rat.divInt a (b : Int)) * (b : Rat) = ra (a : Rat) := by
      rw [← e, ra_mul, ra_nat]
    rw [this]
    exact h7⟩
  have h2 := h1.lift (E := k) (Nat.pos_of_ne_zero fun z => by subst z; simp at hk)
  rw [hk] at h2
  exact h2.mono (Nat.le_trans (Nat.mul_le_mul_left 7 k60) (by decide))
def r20 : Rat := mkRat (10 ^ 20 + 1) 3
theorem r20_num : r20.num = 10 ^ 20 + 1 := by decide +kernel
theorem r20_den : r20.den = 3 := by decide +kernel
theorem r20_ib : IB 60 (2 ^ 71) r20 := by
  have e : r20 * ((3 : Nat) : Rat) = ((10 ^ 20 + 1 : Int) : Rat) := by decide +kernel
  have h1 : IB 3 (10 ^ 20 + 1) r20 := ⟨by decide, ⟨_, e⟩, by decide +kernel⟩
  exact (h1.lift (E := 20) (by decide)).mono (by decide +kernel)
theorem ok_some (R : Row K mg "_law_some" (top 63) ["_law_lathe_here"]) (O1 : Okk P w K mg base "_law_spin" 1 ["_law_lathe_here", "_law_many"] spSpin) (O2 : Okk P w K mg base "_law_one_of" 2 ["_law_lathe_here", "_law_some_here"] spOneOf)
    (O3 : Okk P w K mg base "_law_low" 1 ["_law_above", "_law_under"] spLowest) : Okk P w K mg base "_law_some" 3 ["_law_lathe_here"] spSome := by
  refine okk R sc_law_some (fun vs H Q E h => ?_) (fun f cdv A outer s H vs Q E hr h => ?_)
  · obtain ⟨a, t, rfl, _⟩ := h
    rfl
  · obtain ⟨a, t, rfl, hl, t4, q⟩ := h
    refine ⟨_, pss_one (ps_ret (pe_cl O2 hr (pa_cons (pv 0) (pa_cons (pe_lst (pa_cons pe_int (pa_cons pe_int (pa_cons (pe_un un_neg pe_int) (pa_cons pe_int (pa_cons (pe_op op_sub (pe_cl O1 hr (pa_cons (pv 0) (pa_cons pe_int pa_nil))) pe_int)
      (pa_cons (pe_cl O3 hr (pa_cons (pe_op op_sub (pe_cl O1 hr (pa_cons (pv 0) (pa_cons pe_int pa_nil))) pe_int) (pa_cons (pe_op op_add pe_int (pe_cl O1 hr (pa_cons (pv 0) (pa_cons pe_int pa_nil)))) pa_nil)))
      (pa_cons (pe_tup (pa_cons (pe_op op_add (pe_op op_pow pe_int pe_int) pe_int) (pa_cons pe_int pa_nil))) pa_nil)))))))) pa_nil)))), ?_⟩
    refine ⟨_, rfl, 1, rfl, ?_⟩
    refine ⟨_, rfl, a, t, 15, rfl, hl, by omega, by decide, by decide, fun H1 r1 k1 l1 r10 r11 => ?_⟩
    refine ⟨_, _, rfl, rfl, ?_⟩
    refine ⟨_, rfl, a, t + 1, 15, rfl, l1, by omega, by decide, by decide, fun H2 r2 k2 l2 r20' r21 => ?_⟩
    refine ⟨_, _, rfl, rfl, ?_⟩
    refine ⟨_, rfl, a, t + 2, 6, rfl, l2, by omega, by decide, by decide, fun H3 r3 k3 l3 r30 r31 => ?_⟩
    refine ⟨_, _, rfl, rfl, ?_⟩
    refine ⟨r2 - 7, 1 + r3, rfl, ⟨by omega, Nat.lt_of_le_of_lt (show (1 + r3).natAbs ≤ 6 by omega) (by decide +kernel)⟩, fun u H4 s4 hu => ?_⟩
    refine ⟨_, _, rfl, rfl, ⟨by decide, by decide, by decide⟩, _, _, rfl, rfl, s2, fun p np => ?_⟩
    have e4 : (upd H4 p (.tup [.int (10 ^ (20 : Int).toNat + 1), .int 3])) p = some (.tup [.int r20.num, .int (r20.den : Int)]) := by rw [upd_same, r20_num, r20_den]; rfl
    have s5 : Same H4 (upd H4 p (.tup [.int (10 ^ (20 : Int).toNat + 1), .int 3])) := same_upd np
    dsimp only at e4 s5 ⊢
    generalize upd H4 p (.tup [.int (10 ^ (20 : Int).toNat + 1), .int 3]) = H5 at e4 s5
    have s35 := s4.trans s5
    have l5 := l3.same s35
    refine ⟨Nat.le_trans (show 7 ≤ 1000 by decide) (sz (Nat.le_refl _)), fun l nl => ?_⟩
    have la : l ≠ a := fun z => by
      obtain ⟨c, i, r, ns, ⟨h1, _⟩, _⟩ := l5
      rw [z, h1] at nl
      cases nl
    have s6 : Same H5 (upd H5 l (.lst [.int 0, .int 1, .int (-1), .int 2, .int (r1 - 7), u, .ref p])) := same_upd nl
    have e6 : (upd H5 l (.lst [.int 0, .int 1, .int (-1), .int 2, .int (r1 - 7), u, .ref p])) l = some (.lst [.int 0, .int 1, .int (-1), .int 2, .int (r1 - 7), u, .ref p]) := upd_same
    refine ⟨a, t + 3, l, _, rfl, l5.same s6, by omega, la, e6, (show 1 ≤ 7 by decide), (show 7 ≤ 1000 by decide), fun H7 k x k7 l7 e => ?_⟩
    have kk : Kp a H H7 := (((k1.trans k2).trans k3).trans (Kp.of (s35.trans s6))).trans k7
    have l6 := l5.same s6
    have nu : ∀ {v : V} {r : Rat}, NumV H5 v r → NumV H7 v r := fun h => (h.same s6).kpl l6 k7
    rcases k with _ | _ | _ | _ | _ | _ | _ | k
    · obtain rfl := Option.some.inj e
      exact q H7 _ _ kk l7 (num_int H7 0) (ib_int 0 (by decide))
    · obtain rfl := Option.some.inj e
      exact q H7 _ _ kk l7 (num_int H7 1) (ib_int 1 (by decide))
    · obtain rfl := Option.some.inj e
      exact q H7 _ _ kk l7 (num_int H7 (-1)) (ib_int (-1) (by decide))
    · obtain rfl := Option.some.inj e
      exact q H7 _ _ kk l7 (num_int H7 2) (ib_int 2 (by decide))
    · obtain rfl := Option.some.inj e
      exact q H7 _ _ kk l7 (num_int H7 (r1 - 7)) (ib_int (r1 - 7) (by omega))
    · obtain rfl := Option.some.inj e
      refine q H7 _ _ kk l7 (nu (hu.same s5)) ?_
      have e1 : (1 + r3) = (((1 + r3).toNat : Nat) : Int) := by omega
      rw [e1]
      exact ib_div (r2 - 7) _ (by omega) (by omega) (by omega)
    · obtain rfl := Option.some.inj e
      exact q H7 _ _ kk l7 (nu (.inr ⟨by rw [r20_den]; decide, p, rfl, e4⟩)) r20_ib
    · simp at e
def spPoint : Sp := fun vs H Q _ => ∃ a t, vs = [.ref a] ∧ LatheV H a t ∧ t ≤ 8900 ∧ ∀ H' v x y, Kp a H H' → LatheV H' a (t + 8) → PtV H' v x y → IB 60 (2 ^ 71) x → IB 60 (2 ^ 71) y → Q v H'
theorem ok_point (R : Row K mg "_law_point" (top 64) ["_law_lathe_here"]) (O : Okk P w K mg base "_law_some" 3 ["_law_lathe_here"] spSome) : Okk P w K mg base "_law_point" 4 ["_law_lathe_here"] spPoint := by
  refine okk R sc_law_point (fun vs H Q E h => ?_) (fun f cdv A outer s H vs Q E hr h => ?_)
  · obtain ⟨a, t, rfl, _⟩ := h
    rfl
  · obtain ⟨a, t, rfl, hl, t4, q⟩ := h
    refine ⟨_, pss_one (ps_ret (pe_tup (pa_cons (pe_cl O hr (pa_cons (pv 0) pa_nil)) (pa_cons (pe_cl O hr (pa_cons (pv 0) pa_nil)) pa_nil)))), ?_⟩
    refine ⟨_, rfl, a, t, rfl, hl, by omega, fun H1 v x k1 l1 h1 b1 => ⟨_, rfl, a, t + 4, rfl, l1, by omega, fun H2 v2 y k2 l2 h2 b2 => ⟨s2, fun p np => ?_⟩⟩⟩
    have s3' : Same H2 (upd H2 p (.tup [v, v2])) := same_upd np
    exact q _ _ x y ((k1.trans k2).trans (Kp.of s3')) (l2.same s3') ⟨p, v, v2, rfl, upd_same, (h1.kpl l1 k2).same s3', h2.same s3'⟩ b1 b2
/-! ### a turn -/
def TurnB (D : Nat) (x y : Rat) : Prop := 1 ≤ D ∧ D ≤ 25 ∧ IB D D x ∧ IB D D y
def spTurn : Sp := fun vs H Q _ => ∃ a t, vs = [.ref a] ∧ LatheV H a t ∧ t ≤ 9000 ∧ ∀ H' v x y D, Kp a H H' → LatheV H' a (t + 2) → PtV H' v x y → TurnP x y → TurnB D x y → Q v H'
theorem ib_frac {a : Int} {d : Nat} (d1 : 1 ≤ d) (h : a.natAbs ≤ d) : IB d d (Rat.divInt a (d : Int)) := by
  have dq : (d : Rat) ≠ 0 := fun z => absurd (Rat.natCast_eq_zero_iff.mp z) (by omega)
  have e : Rat.divInt a (d : Int) * (d : Rat) = (a : Rat) := by
    rw [Rat.divInt_eq_div]
    exact Rat.div_mul_cancel dq
  refine ⟨by omega, ⟨a, e⟩, ?_⟩
  have : ra (Rat.divInt a (d : Int)) * (d : Rat) = ra (a : Rat) := by
    rw [← e, ra_mul, ra_nat]
  rw [this]
  unfold ra
  split
  · have : -(a : Rat) = ((-a : Int) : Rat) := by simp
    rw [this]
    exact_mod_cast (show -a ≤ (d : Int) by omega)
  · exact_mod_cast (show a ≤ (d : Int) by omega)
theorem turn_ok {p q : Int} (hp1 : -4 ≤ p) (hp2 : p ≤ 4) (hq1 : 0 ≤ q) (hq2 : q ≤ 3) (nz : ¬ (p = 0 ∧ q = 0)) : ∃ D : Nat, p * p + q * q = (D : Int) ∧ TurnP (Rat.divInt (q * q - p * p) (p * p + q * q)) (Rat.divInt (2 * p * q) (p * p + q * q)) ∧
    TurnB D (Rat.divInt (q * q - p * p) (p * p + q * q)) (Rat.divInt (2 * p * q) (p * p + q * q)) := by
  have p1 : 0 ≤ p * p := by rcases Int.le_total 0 p with h | h; exact Int.mul_nonneg h h; exact Int.mul_nonneg_of_nonpos_of_nonpos h h
  have q1 : 0 ≤ q * q := Int.mul_nonneg hq1 hq1
  have pc : p = -4 ∨ p = -3 ∨ p = -2 ∨ p = -1 ∨ p = 0 ∨ p = 1 ∨ p = 2 ∨ p = 3 ∨ p = 4 := by omega
  have qc : q = 0 ∨ q = 1 ∨ q = 2 ∨ q = 3 := by omega
  refine ⟨(p * p + q * q).toNat, ?_, ?_, ?_⟩
  · omega
  · rcases pc with rfl | rfl | rfl | rfl | rfl | rfl | rfl | rfl | rfl <;> rcases qc with rfl | rfl | rfl | rfl <;> first | exact absurd ⟨rfl, rfl⟩ nz | exact ⟨⟨by decide +kernel, by decide +kernel⟩, ⟨by decide +kernel, by decide +kernel⟩, by decide +kernel⟩
  · rcases pc with rfl | rfl | rfl | rfl | rfl | rfl | rfl | rfl | rfl <;> rcases qc with rfl | rfl | rfl | rfl <;> first | exact absurd ⟨rfl, rfl⟩ nz | exact ⟨by decide, by decide, ib_frac (by decide) (by decide), ib_frac (by decide) (by decide)⟩
theorem ok_turn (R : Row K mg "_law_turn" (top 65) ["_law_lathe_here"]) (O1 : Okk P w K mg base "_law_spin" 1 ["_law_lathe_here", "_law_many"] spSpin) (O2 : Okk P w K mg base "_law_low" 1 ["_law_above", "_law_under"] spLowest) : Okk P w K mg base "_law_turn" 2 ["_law_lathe_here"] spTurn := by
  refine okk R sc_law_turn (fun vs H Q E h => ?_) (fun f cdv A outer s H vs Q E hr h => ?_)
  · obtain ⟨a, t, rfl, _⟩ := h
    rfl
  · obtain ⟨a, t, rfl, hl, t4, q⟩ := h
    have nd := sc_law_turn.nd
    refine ⟨_, pss_cons (ps_par (i := 1) (j := 2) (by rfl) nd rfl rfl (by decide) rfl rfl (pa_cons (pe_op op_sub (pe_cl O1 hr (pa_cons (pv 0) (pa_cons pe_int pa_nil))) pe_int) (pa_cons (pe_cl O1 hr (pa_cons (pv 0) (pa_cons pe_int pa_nil))) pa_nil)) (by rfl))
      (pss_cons (ps_if (PW.pt (pw_and (pt_cmpR op_eq (pv 1) pe_int (nomark _)) (pw_and1 (pt_cmpR op_eq (pv 2) pe_int (nomark _))))) (pss_one (ps_ret (pe_tup (pa_cons (pe_un un_neg pe_int) (pa_cons pe_int pa_nil))))) pss_nil)
      (pss_one (ps_ret (pe_tup (pa_cons (pe_cl O2 hr (pa_cons (pe_op op_sub (pe_op op_mul (pv 2) (pv 2)) (pe_op op_mul (pv 1) (pv 1))) (pa_cons (pe_op op_add (pe_op op_mul (pv 1) (pv 1)) (pe_op op_mul (pv 2) (pv 2))) pa_nil)))
        (pa_cons (pe_cl O2 hr (pa_cons (pe_op op_mul (pe_op op_mul pe_int (pv 1)) (pv 2)) (pa_cons (pe_op op_add (pe_op op_mul (pv 1) (pv 1)) (pe_op op_mul (pv 2) (pv 2))) pa_nil))) pa_nil)))))), ?_⟩
    refine ⟨_, rfl, a, t, 9, rfl, hl, by omega, by decide, by decide, fun H1 p k1 l1 p0 p1 => ?_⟩
    refine ⟨_, _, rfl, rfl, ?_⟩
    refine ⟨_, rfl, a, t + 1, 4, rfl, l1, by omega, by decide, by decide, fun H2 r k2 l2 r0 r1 => ?_⟩
    refine ⟨_, _, rfl, ?_⟩
    have small : ∀ {z : Int}, -4 ≤ z → z ≤ 4 → ∀ i, CMul i z := fun h1 h2 i => .inr ⟨by omega, by omega⟩
    have body : ¬ (p - 4 = 0 ∧ r = 0) → tRet (tTup (tCons (tCall spLowest [] E0 (tCons (tOp (rI0 fun i j => .int (i - j)) (tOp (rI CMul fun i j => .int (i * j)) (tVar 2) (tVar 2)) (tOp (rI CMul fun i j => .int (i * j)) (tVar 1) (tVar 1))) (tCons (tOp (rI0 fun i j => .int (i + j)) (tOp (rI CMul fun i j => .int (i * j)) (tVar 1) (tVar 1)) (tOp (rI CMul fun i j => .int (i * j)) (tVar 2) (tVar 2))) tNil)))
        (tCons (tCall spLowest [] E0 (tCons (tOp (rI CMul fun i j => .int (i * j)) (tOp (rI CMul fun i j => .int (i * j)) (tC (.int 2)) (tVar 1)) (tVar 2)) (tCons (tOp (rI0 fun i j => .int (i + j)) (tOp (rI CMul fun i j => .int (i * j)) (tVar 1) (tVar 1)) (tOp (rI CMul fun i j => .int (i * j)) (tVar 2) (tVar 2))) tNil))) tNil))) { nx := fun _ H' => Q .non H', rt := Q } [some (.ref a), some (.int (p - 4)), some (.int r)] H2 := fun nz => by
      obtain ⟨D, eD, tp, tb⟩ := turn_ok (p := p - 4) (q := r) (by omega) (by omega) (by omega) (by omega) nz
      have lp : ∀ z : Int, LowP z ((p - 4) * (p - 4) + r * r) := fun z => by
        rw [eD]
        have := tb.1
        have := tb.2.1
        exact ⟨by omega, Nat.lt_of_le_of_lt (show ((D : Int)).natAbs ≤ 25 by omega) (by decide +kernel)⟩
      refine ⟨_, rfl, _, rfl, _, _, rfl, rfl, small (by omega) (by omega) _, _, rfl, _, rfl, _, _, rfl, rfl, small (by omega) (by omega) _, _, _, rfl, rfl, ?_⟩
      refine ⟨_, rfl, _, rfl, _, _, rfl, rfl, small (by omega) (by omega) _, _, rfl, _, rfl, _, _, rfl, rfl, small (by omega) (by omega) _, _, _, rfl, rfl, ?_⟩
      refine ⟨_, _, rfl, lp _, fun u H3 s3' hu => ?_⟩
      refine ⟨_, rfl, _, _, rfl, rfl, small (by omega) (by omega) _, _, rfl, _, _, rfl, rfl, small (by omega) (by omega) _, ?_⟩
      refine ⟨_, rfl, _, rfl, _, _, rfl, rfl, small (by omega) (by omega) _, _, rfl, _, rfl, _, _, rfl, rfl, small (by omega) (by omega) _, _, _, rfl, rfl, ?_⟩
      refine ⟨_, _, rfl, lp _, fun u2 H4 s4 hu2 => ⟨s2, fun l nl => ?_⟩⟩
      have s5 : Same H4 (upd H4 l (.tup [u, u2])) := same_upd nl
      exact q _ _ _ _ D ((k1.trans k2).trans (Kp.of ((s3'.trans s4).trans s5))) (l2.same ((s3'.trans s4).trans s5)) ⟨l, u, u2, rfl, upd_same, (hu.same s4).same s5, hu2.same s5⟩ tp tb
    refine ⟨_, rfl, rfl, _, rfl, ite2 (fun c1 => ?_) (fun c1 => ?_)⟩
    · have e1 : p - 4 = 0 := V.int.inj (of_decide_eq_true c1)
      refine ⟨_, rfl, rfl, _, rfl, ite2 (fun c2 => ?_) (fun c2 => ?_)⟩
      · refine ⟨1, rfl, s2, fun l nl => ?_⟩
        have s5 : Same H2 (upd H2 l (.tup [.int (-1), .int 0])) := same_upd nl
        refine q _ _ (-1) 0 1 ((k1.trans k2).trans (Kp.of s5)) (l2.same s5) ⟨l, _, _, rfl, upd_same, num_int _ (-1), num_int _ 0⟩ ⟨⟨by decide +kernel, by decide +kernel⟩, ⟨by decide +kernel, by decide +kernel⟩, by decide +kernel⟩ ⟨by decide, by decide, ?_, ?_⟩
        · exact ib_frac (a := -1) (d := 1) (by decide) (by decide)
        · exact ib_frac (a := 0) (d := 1) (by decide) (by decide)
      · exact body fun z => c2 (decide_eq_true (congrArg V.int z.2))
    · exact iteF (body fun z => c1 (decide_eq_true (congrArg V.int z.1)))
end
end Kd

namespace Kd
open PySem PySem.Spec PyProof.Rows L2 Pk
theorem LatheV.kpD {H H' : Hp} {a D : Addr} {t : Nat} (h : LatheV H a t) (n : ∀ xs, H D ≠ some (.lst xs)) (k : Kp D H H') : LatheV H' a t := by
  obtain ⟨c, i, r, ns, ⟨h1, h2, h3⟩, h4⟩ := h
  exact ⟨c, i, r, ns, ⟨k _ _ (fun z => n _ (z ▸ h1)) h1, k _ _ (fun z => n _ (z ▸ h2)) h2, h3⟩, h4⟩
theorem LatheV.is {H : Hp} {a : Addr} {t : Nat} (h : LatheV H a t) : ∃ o, H a = some o := by
  obtain ⟨c, i, r, ns, ⟨h1, _⟩, _⟩ := h
  exact ⟨_, h1⟩
theorem LatheV.neD {H : Hp} {a D : Addr} {t : Nat} {kvs : List (List L2.Key × V)} (h : LatheV H a t) (hD : H D = some (.dT kvs)) : D ≠ a := fun e => by
  obtain ⟨c, i, r, ns, ⟨h1, _⟩, _⟩ := h
  rw [e, h1] at hD
  cases hD
theorem not_lstD {H : Hp} {D : Addr} {kvs : List (List L2.Key × V)} (h : H D = some (.dT kvs)) : ∀ xs, H D ≠ some (.lst xs) := fun xs z => by rw [h] at z; cases z
theorem refs_inj : ∀ {l m : List Addr}, l.map V.ref = m.map V.ref → l = m
  | [], [], _ => rfl
  | a :: l, b :: m, h => by
    rw [List.map_cons, List.map_cons] at h
    injection h with h1 h2
    rw [V.ref.inj h1, refs_inj h2]
section
variable {P : Program} {w : World} {K : PySem.W.Frag} {mg : Str → Option Value} {base : Heap} {C : Addr}
/-! ### drawn coefficients -/
def menuB : Nat := 6 * 10 ^ 30
def spPowers : Sp := fun vs H Q _ => ∃ a t, ∃ d n : Nat, vs = [.ref a, .int (d : Int), .int (n : Int)] ∧ LatheV H a t ∧ t ≤ 8000 ∧ d ≤ 6 ∧ n ≤ 6 ∧
  ∀ H' D kvs f, Kp a H H' → LatheV H' a (t + 3 * n) → H' D = some (.dT kvs) → DV H' kvs f → Dg d f → SC 42 (n * menuB) f → Q (.ref D) H'
theorem ok_powers (R : Row K mg "_law_powers" (top 60) ["_law_lathe_here", "_law_degree", "_law_many"]) (gr : mg "range" = none) (O1 : Okk P w K mg base "_law_spin" 1 ["_law_lathe_here", "_law_many"] spSpin)
    (O2 : Okk P w K mg base "_law_one_of" 2 ["_law_lathe_here", "_law_some_here"] spOneOf) : Okk P w K mg base "_law_powers" 3 ["_law_lathe_here", "_law_degree", "_law_many"] spPowers := by
  refine okk R sc_law_powers (fun vs H Q E h => ?_) (fun f cdv A outer s H vs Q E hr h => ?_)
  · obtain ⟨a, t, d, n, rfl, _⟩ := h
    rfl
  · obtain ⟨a, t, d, n, rfl, hl, t4, d6, n6, q⟩ := h
    have nd := sc_law_powers.nd
    refine ⟨_, pss_cons (ps_set (i := 3) nd rfl (Or.inl rfl) pe_dnewT)
      (pss_cons (ps_for PassesOwn.never rfl (pi_range1 (by rfl) gr (pa_cons (pv 2) pa_nil)) (pg_name (i := 4) nd rfl (Or.inl rfl))
        (pss_cons (ps_set (i := 5) nd rfl (Or.inl rfl) (pe_cl O1 hr (pa_cons (pv 0) (pa_cons (pe_op op_add (pv 1) pe_int) pa_nil))))
        (pss_one (ps_dput (u1 hr) (pv 3) (pe_tup (pa_cons (pv 5) (pa_cons (pe_cl O1 hr (pa_cons (pv 0) (pa_cons (pe_op op_add (pe_op op_sub (pv 1) (pv 5)) pe_int) pa_nil))) pa_nil)))
          (pe_cl O2 hr (pa_cons (pv 0) (pa_cons (pe_lst (pa_cons pe_int (pa_cons (pe_un un_neg pe_int) (pa_cons pe_int (pa_cons (pe_tup (pa_cons pe_int (pa_cons pe_int pa_nil))) (pa_cons (pe_tup (pa_cons (pe_un un_neg pe_int) (pa_cons pe_int pa_nil))) (pa_cons pe_int (pa_cons (pe_tup (pa_cons pe_int (pa_cons pe_int pa_nil))) (pa_cons (pe_un un_neg pe_int)
            (pa_cons (pe_tup (pa_cons (pe_op op_pow pe_int pe_int) (pa_cons pe_int pa_nil))) (pa_cons (pe_op op_sub pe_int (pe_op op_pow pe_int pe_int)) pa_nil))))))))))) pa_nil))) (by rfl)))))
      (pss_one (ps_ret (pv 3)))), ?_⟩
    refine fun D nD => ?_
    dsimp only [gName, tNext]
    have s0 : Same H (upd H D (.dT [])) := same_upd nD
    refine ⟨_, rfl, (n : Int), rfl, (r62 n6).1, (r62 n6).2, ?_⟩
    refine for_range (lo := 0) (n := n) (fun k σ H' => ∃ o4 o5 kvs f, σ = [some (.ref a), some (.int (d : Int)), some (.int (n : Int)), some (.ref D), o4, o5] ∧ Kp a H H' ∧ LatheV H' a (t + 3 * k) ∧ H' D = some (.dT kvs) ∧ DV H' kvs f ∧ Dg d f ∧ SC 42 (k * menuB) f)
      ⟨_, _, [], cst 0, rfl, Kp.of s0, hl.same s0, upd_same, DV.nil _, (cst_dg 0).mono (Nat.zero_le _), SC.zero (by decide) _⟩ (fun k σ H' lt p => ?_) (fun σ H' p => ?_)
    · obtain ⟨o4, o5, kvs, f, rfl, kp, lv, hD, dv, dgf, zf⟩ := p
      have aD := lv.neD hD
      refine ⟨_, rfl, _, rfl, _, _, rfl, rfl, a, t + 3 * k, _, rfl, lv, by omega, by omega, by omega, fun H1 i k1 l1 i0 i1 => ?_⟩
      have hD1 := k1 _ _ aD hD
      have dv1 := dv.kp lv.noT k1
      -- the list of what is drawn from
      refine ⟨_, rfl, 1, rfl, s2, fun p1 n1 => ?_⟩
      have e1 : (upd H1 p1 (.tup [.int 1, .int 2])) p1 = some (.tup [.int 1, .int 2]) := upd_same
      have sA : Same H1 (upd H1 p1 (.tup [.int 1, .int 2])) := same_upd n1
      generalize upd H1 p1 (.tup [.int 1, .int 2]) = Ha at e1 sA
      refine ⟨3, rfl, s2, fun p2 n2 => ?_⟩
      have e2 : (upd Ha p2 (.tup [.int (-3), .int 2])) p2 = some (.tup [.int (-3), .int 2]) := upd_same
      have sB : Same Ha (upd Ha p2 (.tup [.int (-3), .int 2])) := same_upd n2
      generalize upd Ha p2 (.tup [.int (-3), .int 2]) = Hb at e2 sB
      refine ⟨s2, fun p3 n3 => ?_⟩
      have e3 : (upd Hb p3 (.tup [.int 2, .int 3])) p3 = some (.tup [.int 2, .int 3]) := upd_same
      have sC : Same Hb (upd Hb p3 (.tup [.int 2, .int 3])) := same_upd n3
      generalize upd Hb p3 (.tup [.int 2, .int 3]) = Hc at e3 sC
      refine ⟨4, rfl, _, _, rfl, rfl, ⟨by decide, by decide, by decide⟩, s2, fun p4 n4 => ?_⟩
      have e4 : (upd Hc p4 (.tup [.int (10 ^ (30 : Int).toNat), .int 7])) p4 = some (.tup [.int (10 ^ 30), .int 7]) := upd_same
      have sD : Same Hc (upd Hc p4 (.tup [.int (10 ^ (30 : Int).toNat), .int 7])) := same_upd n4
      dsimp only at e4 sD ⊢
      generalize upd Hc p4 (.tup [.int (10 ^ (30 : Int).toNat), .int 7]) = Hd at e4 sD
      refine ⟨_, _, rfl, rfl, ⟨by decide, by decide, by decide⟩, _, _, rfl, rfl, Nat.le_trans (show 10 ≤ 1000 by decide) (sz (Nat.le_refl _)), fun l nl => ?_⟩
      have s1d := ((sA.trans sB).trans sC).trans sD
      have ld := l1.same s1d
      have la : l ≠ a := fun z => by
        obtain ⟨o, ho⟩ := ld.is
        rw [z, ho] at nl
        cases nl
      dsimp only at nl ⊢
      have sE : Same Hd (upd Hd l (.lst [.int 1, .int (-1), .int 2, .ref p1, .ref p2, .int 5, .ref p3, .int (-4), .ref p4, .int (1 - 10 ^ (29 : Int).toNat)])) := same_upd nl
      have e5 : (upd Hd l (.lst [.int 1, .int (-1), .int 2, .ref p1, .ref p2, .int 5, .ref p3, .int (-4), .ref p4, .int (1 - 10 ^ (29 : Int).toNat)])) l = some (.lst [.int 1, .int (-1), .int 2, .ref p1, .ref p2, .int 5, .ref p3, .int (-4), .ref p4, .int (1 - 10 ^ (29 : Int).toNat)]) := upd_same
      have le := ld.same sE
      refine ⟨a, t + 3 * k + 1, l, _, rfl, le, by omega, la, e5, (show 1 ≤ 10 by decide), (show 10 ≤ 1000 by decide), fun H2 m x k2' l2 ex => ?_⟩
      have s1e := s1d.trans sE
      have num : ∃ r ∈ menu, NumV H2 x r := by
        have tup : ∀ {p : Addr} {r : Rat}, r.den ≠ 1 → Hd p = some (.tup [.int r.num, .int (r.den : Int)]) → NumV H2 (.ref p) r := fun {p r} dn h => NumV.kpl (NumV.same (.inr ⟨dn, p, rfl, h⟩) sE) le k2'
        rcases m with _ | _ | _ | _ | _ | _ | _ | _ | _ | _ | m
        · obtain rfl := Option.some.inj ex
          exact ⟨1, by simp [menu], num_int H2 1⟩
        · obtain rfl := Option.some.inj ex
          exact ⟨-1, by simp [menu], num_int H2 (-1)⟩
        · obtain rfl := Option.some.inj ex
          exact ⟨2, by simp [menu], num_int H2 2⟩
        · obtain rfl := Option.some.inj ex
          exact ⟨mkRat 1 2, by simp [menu], tup (by decide +kernel) (((sB.trans sC).trans sD) _ _ e1)⟩
        · obtain rfl := Option.some.inj ex
          refine ⟨mkRat (-3) 2, by simp [menu], tup (by decide +kernel) ?_⟩
          rw [show (mkRat (-3) 2).num = -3 by decide +kernel, show (mkRat (-3) 2).den = 2 by decide +kernel]
          exact (sC.trans sD) _ _ e2
        · obtain rfl := Option.some.inj ex
          exact ⟨5, by simp [menu], num_int H2 5⟩
        · obtain rfl := Option.some.inj ex
          exact ⟨mkRat 2 3, by simp [menu], tup (by decide +kernel) (sD _ _ e3)⟩
        · obtain rfl := Option.some.inj ex
          exact ⟨-4, by simp [menu], num_int H2 (-4)⟩
        · obtain rfl := Option.some.inj ex
          refine ⟨mkRat (10 ^ 30) 7, by simp [menu], tup (by decide +kernel) ?_⟩
          rw [e4, show (mkRat (10 ^ 30) 7).num = 10 ^ 30 by decide +kernel, show (mkRat (10 ^ 30) 7).den = 7 by decide +kernel]
          rfl
        · obtain rfl := Option.some.inj ex
          refine ⟨1 - 10 ^ 29, by simp [menu], .inl ⟨by decide +kernel, ?_⟩⟩
          exact congrArg V.int (by decide +kernel)
        · simp at ex
      obtain ⟨r, mr, hn⟩ := num
      have hD2 := k2' _ _ aD (s1e _ _ hD1)
      have dv2 := (dv1.same s1e).kp le.noT k2'
      refine ⟨_, rfl, _, rfl, ?_⟩
      refine ⟨_, rfl, _, rfl, _, rfl, _, _, rfl, rfl, _, _, rfl, rfl, a, _, _, rfl, l2, by omega, by omega, by omega, fun H3 j k3 l3 j0 j1 => ⟨s2, fun p np => ?_⟩⟩
      have s4 : Same H3 (upd H3 p (.tup [.int i, .int j])) := same_upd np
      have hp : (upd H3 p (.tup [.int i, .int j])) p = some (.tup ((k2 (i.toNat, j.toNat)).map kV)) := by
        rw [upd_same]
        show _ = some (HO.tup [V.int ((i.toNat : Nat) : Int), V.int ((j.toNat : Nat) : Int)])
        rw [Int.toNat_of_nonneg i0, Int.toNat_of_nonneg j0]
      generalize upd H3 p (.tup [.int i, .int j]) = H4 at s4 hp
      have hD4 := s4 _ _ (k3 _ _ aD hD2)
      have dv4 := (dv2.kp l2.noT k3).same s4
      have hn4 := (hn.kpl l2 k3).same s4
      have l4 := l3.same s4
      have ij : i.toNat + j.toNat ≤ d := by omega
      refine ⟨D, _, rfl, DPut.t hD4 hp (l28' (by have := dv4.len; omega)), ?_⟩
      have kk : Kp D H4 (upd H4 D (.dT (putK kvs (k2 (i.toNat, j.toNat)) x))) := Kp.upd _
      refine ⟨_, _, _, setC f i.toNat j.toNat r, rfl, ?_, l4.kpD (not_lstD hD4) kk, upd_same, (dv4.put (by omega) hn4).kp (num_notD hD4) kk, set_dg dgf ij r, ?_⟩
      · have k04 : Kp a H H4 := (((kp.trans k1).trans (Kp.of s1e)).trans (k2'.trans k3)).trans (Kp.of s4)
        exact fun b o nb eb => kk _ _ (ne_of_none eb nD) (k04 b o nb eb)
      · have := SC.set zf (i := i.toNat) (j := j.toNat) (by omega) (menu_ib r mr)
        rw [Nat.add_mul, Nat.one_mul]
        exact this
    · obtain ⟨o4, o5, kvs, f, rfl, kp, lv, hD, dv, dgf, zf⟩ := p
      exact ⟨_, rfl, q H' D kvs f kp lv hD dv dgf zf⟩
/-! ### the terms of a dict -/
def spTerms : Sp := fun vs H Q _ => ∃ D kvs f, vs = [.ref D] ∧ H D = some (.dT kvs) ∧ DV H kvs f ∧ ∀ H' q us, Same H H' → H' q = some (.tup us) → TermsV H' us (terms f) → Q (.ref q) H'
theorem ok_terms (R : Row K mg "_law_terms" (top 61) ["_law_found"]) (gs : mg "sorted" = none) (gt : mg "tuple" = none) : Okk P w K mg base "_law_terms" 1 ["_law_found"] spTerms := by
  refine okk R sc_law_terms (fun vs H Q E h => ?_) (fun f cdv A outer s H vs Q E hr h => ?_)
  · obtain ⟨D, kvs, f, rfl, _⟩ := h
    rfl
  · obtain ⟨D, kvs, f, rfl, hD, dv, q⟩ := h
    have nd := sc_law_terms.nd
    refine ⟨_, pss_one (ps_ret (pe_callTy call_tuple_of (by rfl) gt (by decide +kernel) (pa_cons (pe_lc (own := [("_law_i", 1), ("_law_j", 2)]) (g := gTup K 2 (gCons (gName 1) (gCons (gName 2) gNil)))
        (tt := tTest (tOp (rNeD K) (tDGet (tVar 0) (tTup (tCons (tVar 1) (tCons (tVar 2) tNil)))) (tC (V.int 0)))) rfl nd (pi_list (pe_callB (cr_sortDT rfl (d := 2) (B := 7) (by decide)) (by rfl) gs (by decide +kernel) (pa_cons (pv 0) pa_nil))) (blkOk_by (N := ["_law_found", "_law_i", "_law_j"]) (sc := defScope (top 61)) (by decide +kernel))
        (fun _ _ _ _ _ => pg_tup rfl (pgs_cons (pg_name (i := 1) nd rfl (Or.inl rfl)) (pgs_cons (pg_name (i := 2) nd rfl (Or.inl rfl)) pgs_nil)))
        (fun _ _ _ _ _ => pts_one (pt_cmpR (op_neD hr.units) (pe_dget (u1 hr) (pv 0) (pe_tup (pa_cons (pv 1) (pa_cons (pv 2) pa_nil))) (fun _ _ => rfl)) pe_int (nomark _)))
        (fun _ _ _ _ _ => pe_tup (pa_cons (pv 1) (pa_cons (pv 2) (pa_cons (pe_dget (u1 hr) (pv 0) (pe_tup (pa_cons (pv 1) (pa_cons (pv 2) pa_nil))) (fun _ _ => rfl)) pa_nil))))) pa_nil))), ?_⟩
    dsimp only [tRet, tCB, tCons]
    refine lc_lstE (Pr := fun xs H4 => ∃ ys : List Addr, xs = ys.map V.ref ∧ ys.length ≤ 28 ∧ (∀ y ∈ ys, H4 y = some (.tup [.int ((dec H4 y).1 : Int), .int ((dec H4 y).2 : Int)]) ∧ k2 (dec H4 y) ∈ kvs.map (·.1)) ∧ (ys.map (dec H4)).filter (fun p => decide (f p.1 p.2 ≠ 0)) = nzs f)
      (fun R go => ⟨_, rfl, D, kvs, rfl, .inl hD, by have := dv.len; omega, fun kv m => ?_, fun bs ys p hb pm st np => go p _ _ (same_upd np) upd_same ⟨ys, rfl, ?_⟩⟩)
      (fun xs H4 L i H5 => Same H4 H5 ∧ ∃ acc, H5 L = some (.lst acc) ∧ ∃ ys : List Addr, xs = ys.map V.ref ∧ TermsV H5 acc ((((ys.take i).map (dec H4)).filter (fun p => decide (f p.1 p.2 ≠ 0))).map (tm f))) (fun xs H4 L s4 pr nL => ?_) (fun xs H4 L i H5 nL p => p.1) (fun xs H4 L i z H5 s4 pr nL e pv => ?_) (fun xs H4 L H5 s4 pr nL pv => ?_)
    · obtain ⟨p, e, le, _⟩ := dv.at_ kv m
      refine ⟨[(p.1 : Int), (p.2 : Int)], e, rfl, fun m hm => ?_⟩
      rcases List.mem_cons.mp hm with rfl | hm
      · omega
      · rw [List.mem_singleton.mp hm]
        omega
    · obtain ⟨h1, h2⟩ := dv.sorted hb pm st
      have same_dec : ∀ y ∈ ys, dec (upd H p (.lst (ys.map V.ref))) y = dec H y := fun y hy => by
        unfold dec
        rw [upd_ne (ne_of_none (h1 y hy).1 np)]
      refine ⟨?_, fun y hy => ?_, ?_⟩
      · have e1 := pm.length_eq
        have e2 := Paired.length hb
        have e3 := dv.len
        omega
      · rw [same_dec y hy]
        exact ⟨same_upd np _ _ (h1 y hy).1, (h1 y hy).2.2⟩
      · rw [List.map_congr_left same_dec]
        exact h2
    · obtain ⟨ys, rfl, _⟩ := pr
      exact ⟨same_upd nL, [], upd_same, ys, rfl, .nil⟩
    · obtain ⟨sm5, acc, hL, ys', ey', tv⟩ := pv
      obtain ⟨ys, rfl, yl, hy, ey⟩ := pr
      have eys : ys = ys' := refs_inj ey'
      subst eys
      rw [List.getElem?_map] at e
      obtain ⟨y, ey2, rfl⟩ := Option.map_eq_some_iff.mp e
      have ym := List.mem_of_getElem? ey2
      obtain ⟨hy1, hy2⟩ := hy y ym
      obtain ⟨v, gv, hv⟩ := dv.have_ (i := (dec H4 y).1) (j := (dec H4 y).2) hy2
      have hD5 := sm5 _ _ (s4 _ _ hD)
      have al : acc.length < 29 := by
        have h1 := Paired.length tv
        rw [List.length_map] at h1
        have h2 := List.length_filter_le (fun p : Nat × Nat => decide (f p.1 p.2 ≠ 0)) ((ys.take i).map (dec H4))
        rw [List.length_map, List.length_take] at h2
        omega
      have tk : ((ys.take (i + 1)).map (dec H4)) = ((ys.take i).map (dec H4)) ++ [dec H4 y] := by
        rw [take_snoc ey2, List.map_append]
        rfl
      refine ⟨y, _, rfl, tupAt (sm5 _ _ hy1), rfl, _, _, rfl, _, _, rfl, rfl, rfl, ?_⟩
      refine ⟨_, rfl, _, rfl, _, rfl, s2, fun p np => ⟨D, v, rfl, ?_, ?_⟩⟩
      · rw [← gv]
        exact DGet.t (same_upd np _ _ hD5) upd_same
      · have s6 : Same H5 (upd H5 p (.tup [.int ((dec H4 y).1 : Int), .int ((dec H4 y).2 : Int)])) := same_upd np
        generalize upd H5 p (.tup [.int ((dec H4 y).1 : Int), .int ((dec H4 y).2 : Int)]) = H6 at s6
        have hv6 := (hv.same (s4.trans sm5)).same s6
        refine ⟨_, .int 0, hv6.dp, .int 0, numD_shaped _, rfl, _, rfl, ?_⟩
        rw [numD_zero]
        by_cases z : f (dec H4 y).1 (dec H4 y).2 = 0
        · rw [decide_eq_true z]
          refine iteF ⟨sm5.trans s6, acc, s6 _ _ hL, ys, rfl, ?_⟩
          rw [tk, List.filter_append, List.filter_cons, if_neg (by simp [z]), List.filter_nil, List.append_nil]
          exact tv.same s6
        · rw [decide_eq_false z]
          refine iteT ⟨_, rfl, _, rfl, _, rfl, _, rfl, _, rfl, s2, fun p' np' => ⟨D, v, rfl, ?_, s3, fun l nl => ?_⟩⟩
          · rw [← gv]
            exact DGet.t (same_upd np' _ _ (s6 _ _ hD5)) upd_same
          · have s7 : Same H6 (upd (upd H6 p' (.tup [.int ((dec H4 y).1 : Int), .int ((dec H4 y).2 : Int)])) l (.tup [.int ((dec H4 y).1 : Int), .int ((dec H4 y).2 : Int), v])) := Same.upd (same_upd np') nl
            have s57 := s6.trans s7
            have hL7 := s57 _ _ hL
            refine ⟨acc, hL7, l28' al, sov (sm5.trans s57) nL, _, upd_same, ys, rfl, ?_⟩
            rw [tk, List.filter_append, List.filter_cons, if_pos (decide_eq_true z), List.filter_nil, List.map_append]
            refine Paired.snoc ((tv.same s57).kp (lst_notD hL7) (Kp.upd _)) (TermV.kp (D := L) ⟨l, v, rfl, upd_same, ?_⟩ (lst_notD hL7) (Kp.upd _))
            exact hv6.same s7
    · obtain ⟨sm5, acc, hL, ys', ey', tv⟩ := pv
      obtain ⟨ys, rfl, yl, hy, ey⟩ := pr
      have eys : ys = ys' := refs_inj ey'
      subst eys
      rw [List.length_map, List.take_length, ey, ← terms_nzs] at tv
      exact ⟨L, acc, rfl, .inl ⟨lstAt hL, fun l nl => q _ l acc (Same.upd (s4.trans sm5) nl) upd_same (tv.same (same_upd nl))⟩⟩
end
end Kd

namespace Kd
open PySem PySem.Spec PyProof.Rows L2 Pk
/-- a loop over the keys of a locked dict -/
theorem for_keysT {d : Addr} {o : Obj} {kvs : List (List L2.Key × V)} {g : TG} {tb : TS} {D : Ends} {σ : L2.St} {H : Hp} (Pv : Nat → L2.St → Hp → Prop) (h0 : Pv 0 σ H) (hl : ∀ i σ H, Pv i σ H → H d = some (.frz o (.dT kvs)))
    (hs : ∀ i k v q σ H, kvs[i]? = some (k, v) → H q = some (.tup (k.map kV)) → Pv i σ H → g (.ref q) σ H fun σ2 H2 => tb { D with nx := Pv (i + 1), ct := Pv (i + 1), bk := D.nx } σ2 H2) (hd : ∀ σ H, Pv kvs.length σ H → D.nx σ H) :
    ∃ W : Nat → Nat → L2.St → Hp → Prop, (∃ m, W 0 m σ H) ∧ ∀ i m σ H, W i m σ H →
      ((Itkt d o kvs).stop i H ∧ D.nx σ H) ∨ ((Itkt d o kvs).go i H ∧ ∃ N : L2.St → Hp → Prop, (∀ σ' H', N σ' H' → ∃ m', m' < m ∧ W (i + 1) m' σ' H') ∧ ∀ x H', (Itkt d o kvs).yld i H x H' → g x σ H' fun σ2 H2 => tb { D with nx := N, ct := N, bk := D.nx } σ2 H2) := by
  refine ⟨fun i m σ H => i + m = kvs.length ∧ Pv i σ H, ⟨kvs.length, Nat.zero_add _, h0⟩, fun i m σ H ⟨e, p⟩ => ?_⟩
  cases m with
  | zero =>
    obtain rfl : i = kvs.length := by omega
    exact .inl ⟨⟨hl _ _ _ p, Nat.le_refl _⟩, hd σ H p⟩
  | succ m =>
    exact .inr ⟨⟨hl _ _ _ p, by omega⟩, Pv (i + 1), fun σ' H' p' => ⟨m, by omega, by omega, p'⟩, fun x H' ⟨eH, k, v, q, e1, e2, e3⟩ => by subst eH e2; exact hs i k v q σ _ e1 e3 p⟩
section
variable {P : Program} {w : World} {K : PySem.W.Frag} {mg : Str → Option Value} {base : Heap} {C : Addr}
/-! ### a drawn polynomial -/
theorem terms_ok (f : Co) : TsOk (terms f) := ⟨terms_nd f, fun t ht => (terms_of ht).1, fun t ht => (terms_of ht).2.2⟩
def Drawn (d : Nat) (f : Co) : Prop := Dg d f ∧ SC 42 (2 ^ 105) f
def spLawPoly (C : Addr) : Sp := fun vs H Q _ => ∃ a t, ∃ d n : Nat, vs = [.ref a, .int (d : Int), .int (n : Int)] ∧ LatheV H a t ∧ t ≤ 8000 ∧ d ≤ 6 ∧ n ≤ 5 ∧ ∀ H' v f, Kp a H H' → LatheV H' a (t + 3 * n) → PolyV C H' v f → Drawn d f → Q v H'
theorem ok_law_poly (R : Row K mg "_law_poly" (top 66) ["_law_lathe_here", "_law_degree", "_law_many"]) (PC : PolyC P w K mg base C) (O1 : Okk P w K mg base "_law_terms" 1 ["_law_found"] spTerms) (O2 : Okk P w K mg base "_law_powers" 3 ["_law_lathe_here", "_law_degree", "_law_many"] spPowers) :
    Okk P w K mg base "_law_poly" 7 ["_law_lathe_here", "_law_degree", "_law_many"] (spLawPoly C) := by
  obtain ⟨fI, fdI, M, FI, bI⟩ := PC.make
  refine okk R sc_law_poly (fun vs H Q E h => ?_) (fun f cdv A outer s H vs Q E hr h => ?_)
  · obtain ⟨a, t, d, n, rfl, _⟩ := h
    rfl
  · obtain ⟨a, t, d, n, rfl, hl, t4, d6, n5, q⟩ := h
    refine ⟨_, pss_one (ps_ret (pe_make M FI hr (by rfl) PC.gC bI .nil pass0 (pa_cons (pe_cl O1 hr (pa_cons (pe_cl O2 hr (pa_cons (pv 0) (pa_cons (pv 1) (pa_cons (pv 2) pa_nil)))) pa_nil)) pa_nil))), ?_⟩
    refine ⟨_, rfl, _, rfl, _, rfl, a, t, d, n, rfl, hl, t4, d6, by omega, fun H1 D kvs f k1 l1 hD dv dgf zf => ?_⟩
    refine ⟨D, kvs, f, rfl, hD, dv, fun H2 q2 us s2' hq tv => ?_⟩
    have e := co_terms_eq dv.lw
    refine mk_go (.inl hq) tv (terms_ok f) fun v H3 s3' hv => ?_
    rw [e] at hv
    refine q H3 v f (k1.trans (Kp.of (s2'.trans s3'))) (l1.same (s2'.trans s3')) hv ⟨dgf, zf.mono ?_⟩
    have h1 : n * menuB ≤ 5 * menuB := Nat.mul_le_mul_right _ n5
    exact Nat.le_trans h1 (by decide +kernel)
/-! ### its dict -/
def DictE (H : Hp) (D : Addr) (f : Co) : Prop := ∃ kvs, H D = some (.dT kvs) ∧ Paired (fun kv t => kv.1 = k2 (pr t) ∧ NumV H kv.2 t.2.2) kvs (terms f)
def spLawDict (C : Addr) : Sp := fun vs H Q _ => ∃ v f, vs = [v] ∧ PolyV C H v f ∧ ∀ H' D, Same H H' → DictE H' D f → Q (.ref D) H'
theorem mergeT_new : ∀ (kts : List Ent) (acc : List (List L2.Key × V)), (kts.map (·.1)).Nodup → (∀ t ∈ kts, t.1 ∉ acc.map (·.1)) → mergeT acc kts = acc ++ kts.map fun t => (t.1, t.2.2)
  | [], acc, _, _ => by rw [mergeT_nil, List.map_nil, List.append_nil]
  | t :: r, acc, nd, h => by
    rw [List.map_cons, List.nodup_cons] at nd
    have e : putK acc t.1 t.2.2 = acc ++ [(t.1, t.2.2)] := by
      unfold putK
      rw [if_neg]
      intro z
      obtain ⟨kv, m, e⟩ := List.any_eq_true.mp z
      exact h t List.mem_cons_self (List.mem_map.mpr ⟨kv, m, of_decide_eq_true e⟩)
    rw [mergeT_cons, e, mergeT_new r _ nd.2, List.map_cons, List.append_assoc]
    · rfl
    · intro u hu m
      rw [List.map_append] at m
      rcases List.mem_append.mp m with m | m
      · exact h u (List.mem_cons_of_mem _ hu) m
      · have := List.mem_singleton.mp m
        exact nd.1 (List.mem_map.mpr ⟨u, hu, this⟩)
theorem ok_law_dict (R : Row K mg "_law_dict" (top 67) ["_law_poly_here"]) (gd : mg "dict" = none) (PC : PolyC P w K mg base C) : Okk P w K mg base "_law_dict" 1 ["_law_poly_here"] (spLawDict C) := by
  refine okk R sc_law_dict (fun vs H Q E h => ?_) (fun f cdv A outer s H vs Q E hr h => ?_)
  · obtain ⟨v, f, rfl, _⟩ := h
    rfl
  · obtain ⟨v, f, rfl, hv, q⟩ := h
    have nd := sc_law_dict.nd
    refine ⟨_, pss_one (ps_ret (pe_callTy (call_dictPT rfl hr.units) (by rfl) gd (by decide +kernel) (pa_cons (pe_lc (own := [("_law_i", 1), ("_law_j", 2), ("_law_number", 3)]) (g := gTup K 3 (gCons (gName 1) (gCons (gName 2) (gCons (gName 3) gNil)))) (tt := tYes) rfl nd (pi_tup (pe_fld (pv 0) (by rfl))) (blkOk_by (N := ["_law_poly_here", "_law_i", "_law_j", "_law_number"]) (sc := defScope (top 67)) (by decide +kernel))
      (fun _ _ _ _ _ => pg_tup rfl (pgs_cons (pg_name (i := 1) nd rfl (Or.inl rfl)) (pgs_cons (pg_name (i := 2) nd rfl (Or.inl rfl)) (pgs_cons (pg_name (i := 3) nd rfl (Or.inl rfl)) pgs_nil)))) (fun _ _ _ _ _ => pts_nil)
      (fun _ _ _ _ _ => pe_tup (pa_cons (pe_tup (pa_cons (pv 1) (pa_cons (pv 2) pa_nil))) (pa_cons (pv 3) pa_nil)))) pa_nil))), ?_⟩
    obtain ⟨x, rfl, dx, qa, us, a1, a2, a3, lw⟩ := hv
    have tl := terms_len f
    dsimp only [tRet, tCB, tCons]
    refine lc_tupE (xs := us) (fun R go => ⟨_, rfl, x, C, dx, _, _, rfl, a1, PC.cls, PC.nt, rfl, go qa H (Same.refl H) a2⟩)
      (fun H3 L i H' => Same H3 H' ∧ ∃ (ps : List Addr) (kts : List Ent), H' L = some (.lst (ps.map V.ref)) ∧ Paired (fun p t => H' p = some (.tup [.ref t.2.1, t.2.2])) ps kts ∧ Paired (fun (e : Ent) (t : Pk.Tm) => e.1 = k2 (pr t) ∧ H' e.2.1 = some (.tup (e.1.map kV)) ∧ NumV H' e.2.2 t.2.2) kts ((terms f).take i))
      (fun H3 L s3' nL => ⟨same_upd nL, [], [], upd_same, .nil, .nil⟩) (fun H3 L i H' nL p => p.1) (fun H3 L i z H' s3' nL e p => ?_) (fun H3 L H' s3' nL p => ?_)
    · obtain ⟨sm, ps, kts, hL, pp, pk⟩ := p
      obtain ⟨t, et, ht⟩ := tv_get a3 e
      obtain ⟨b, n, rfl, hb, hn⟩ := ht.same (s3'.trans sm)
      have ln : ps.length < 29 := by
        have h1 := Paired.length pp
        have h2 := Paired.length pk
        rw [List.length_take] at h2
        omega
      refine ⟨b, _, rfl, tupAt hb, rfl, _, _, rfl, _, _, rfl, _, _, rfl, rfl, rfl, ?_⟩
      refine ⟨_, rfl, _, rfl, s2, fun p1 n1 => ⟨_, rfl, s2, fun p2 n2 => ?_⟩⟩
      have sA : Same H' (upd H' p1 (.tup [.int (t.1 : Int), .int (t.2.1 : Int)])) := same_upd n1
      have e1 : (upd H' p1 (.tup [.int (t.1 : Int), .int (t.2.1 : Int)])) p1 = some (.tup ((k2 (pr t)).map kV)) := upd_same
      generalize upd H' p1 (.tup [.int (t.1 : Int), .int (t.2.1 : Int)]) = H4 at sA e1 n2
      have sB : Same H4 (upd H4 p2 (.tup [.ref p1, n])) := same_upd n2
      have e2 : (upd H4 p2 (.tup [.ref p1, n])) p2 = some (.tup [.ref p1, n]) := upd_same
      generalize upd H4 p2 (.tup [.ref p1, n]) = H5 at sB e2
      have sC := sA.trans sB
      have hL5 := sC _ _ hL
      have kk : Kp L H5 (upd H5 L (.lst (ps.map V.ref ++ [.ref p2]))) := Kp.upd _
      have tl5 : ∀ {b : Addr} {xs : List V}, H5 b = some (.tup xs) → (upd H5 L (.lst (ps.map V.ref ++ [.ref p2]))) b = some (.tup xs) := fun {b xs} h => kk _ _ (fun z => by rw [z, hL5] at h; cases h) h
      refine ⟨_, hL5, by rw [List.length_map]; exact l28' ln, sov (sm.trans sC) nL, ps ++ [p2], kts ++ [(k2 (pr t), p1, n)], by rw [upd_same, List.map_append]; rfl, ?_, ?_⟩
      · exact Paired.snoc (Paired.mapP pp fun p t h => tl5 (sC _ _ h)) (tl5 e2)
      · rw [take_snoc et]
        exact Paired.snoc (Paired.mapP pk fun e t h => ⟨h.1, tl5 (sC _ _ h.2.1), (h.2.2.same sC).kp (lst_notD hL5) kk⟩) ⟨rfl, tl5 (sB _ _ e1), (hn.same sC).kp (lst_notD hL5) kk⟩
    · obtain ⟨sm, ps, kts, hL, pp, pk⟩ := p
      rw [Paired.length a3, List.take_length] at pk
      have keys : ∀ {l : List Ent} {ts : List Pk.Tm}, Paired (fun (e : Ent) (t : Pk.Tm) => e.1 = k2 (pr t) ∧ H' e.2.1 = some (.tup (e.1.map kV)) ∧ NumV H' e.2.2 t.2.2) l ts → l.map (·.1) = ts.map (fun t => k2 (pr t)) ∧ (∀ e ∈ l, H' e.2.1 = some (.tup (e.1.map kV))) ∧
          Paired (fun kv t => kv.1 = k2 (pr t) ∧ NumV H' kv.2 t.2.2) (l.map fun e => (e.1, e.2.2)) ts := by
        intro l ts h
        induction h with
        | nil => exact ⟨rfl, fun e he => by simp at he, .nil⟩
        | @cons e t l ts h _ ih =>
          refine ⟨by rw [List.map_cons, List.map_cons, ih.1, h.1], fun u hu => ?_, .cons ⟨h.1, h.2.2⟩ ih.2.2⟩
          rcases List.mem_cons.mp hu with rfl | hu
          · exact h.2.1
          · exact ih.2.1 u hu
      obtain ⟨ky, kh, kp⟩ := keys pk
      have kn : (kts.map (·.1)).Nodup := by
        rw [ky]
        refine List.pairwise_map.mpr (List.Pairwise.imp ?_ (List.pairwise_map.mp (terms_nd f)))
        intro a b n e
        exact n (k2_inj e)
      refine ⟨L, ps, kts, rfl, lstAt hL, pp, kh, fun D nD => ?_⟩
      have em := mergeT_new kts [] kn (fun t ht => by simp)
      rw [List.nil_append] at em
      rw [em]
      have s4 : Same H' (upd H' D (.dT (kts.map fun t => (t.1, t.2.2)))) := same_upd nD
      exact q _ D ((s3'.trans sm).trans s4) ⟨_, upd_same, Paired.mapP kp fun kv t h => ⟨h.1, h.2.same s4⟩⟩
/-! ### the value, by the dict -/
theorem DictE.at_ {H : Hp} {f : Co} {kvs : List (List L2.Key × V)} (h : Paired (fun kv t => kv.1 = k2 (pr t) ∧ NumV H kv.2 t.2.2) kvs (terms f)) {i : Nat} {t : Pk.Tm} (e : (terms f)[i]? = some t) : ∃ n, valV kvs (k2 (pr t)) = some n ∧ NumV H n t.2.2 := by
  have ky : kvs.map (·.1) = (terms f).map fun t => k2 (pr t) := by
    clear e
    generalize terms f = ts at h
    induction h with
    | nil => rfl
    | cons h _ ih => rw [List.map_cons, List.map_cons, ih, h.1]
  have m : k2 (pr t) ∈ kvs.map (·.1) := by
    rw [ky]
    exact List.mem_map.mpr ⟨t, List.mem_of_getElem? e, rfl⟩
  cases ev : valV kvs (k2 (pr t)) with
  | none => exact absurd m (valV_none ev)
  | some n =>
    refine ⟨n, rfl, ?_⟩
    have mm := valV_some ev
    obtain ⟨j, hj, ej⟩ := List.mem_iff_getElem.mp mm
    have g : kvs[j]? = some (k2 (pr t), n) := by rw [List.getElem?_eq_getElem hj, ej]
    obtain ⟨u, gu, e1, e2⟩ := L2.paired_get h g
    have pe : pr u = pr t := (k2_inj e1).symm
    have um := List.mem_of_getElem? gu
    have ut : u.2.2 = t.2.2 := by
      have h1 := (terms_of um).2.1
      have h2 := (terms_of (List.mem_of_getElem? e)).2.1
      unfold pr at pe
      injection pe with p1 p2
      rw [h1, h2, p1, p2]
    rw [← ut]
    exact e2
def spWorth : Sp := fun vs H Q _ => ∃ D v2 f x y, vs = [.ref D, v2] ∧ DictE H D f ∧ PtV H v2 x y ∧ Val f x y ∧ Out H Q fun v H' => NumV H' v (ev f x y)
theorem ok_worth (R : Row K mg "_law_worth" (top 62) ["_law_found", "_law_point_here"]) (gr : mg "range" = none) (O1 : Okk P w K mg base "_law_times" 3 ["_law_one", "_law_other"] spMul) (O2 : Okk P w K mg base "_law_plus" 3 ["_law_one", "_law_other"] spAdd) : Okk P w K mg base "_law_worth" 4 ["_law_found", "_law_point_here"] spWorth := by
  refine okk R sc_law_worth (fun vs H Q E h => ?_) (fun f cdv A outer s H vs Q E hr h => ?_)
  · obtain ⟨D, v2, f, x, y, rfl, _⟩ := h
    rfl
  · obtain ⟨D, v2, f, px, py, rfl, ⟨kvs, hD, kp⟩, ⟨pp, pa, pb, rfl, hp, hpa, hpb⟩, ⟨Dn, M, En, m, zf, zx, zy, le, szf, szp, sz⟩, q⟩ := h
    have nd := sc_law_worth.nd
    have mp : 0 < m := Nat.lt_of_lt_of_le zx.pos le
    refine ⟨_, pss_cons (ps_set (i := 2) nd rfl (Or.inl rfl) pe_int)
      (pss_cons (ps_lock (ps_for PassesOwn.never rfl (pi_keys (pv 0)) (pg_tup rfl (pgs_cons (pg_name (i := 3) nd rfl (Or.inl rfl)) (pgs_cons (pg_name (i := 4) nd rfl (Or.inl rfl)) pgs_nil)))
        (pss_cons (ps_set (i := 5) nd rfl (Or.inl rfl) (pe_dget (u1 hr) (pv 0) (pe_tup (pa_cons (pv 3) (pa_cons (pv 4) pa_nil))) (fun _ _ => rfl)))
        (pss_cons (ps_for PassesOwn.never rfl (pi_range1 (by rfl) gr (pa_cons (pv 3) pa_nil)) (pg_name (i := 6) nd rfl (Or.inl rfl)) (pss_one (ps_set (i := 5) nd rfl (Or.inl rfl) (pe_cl O1 hr (pa_cons (pv 5) (pa_cons (pe_ix ix_tup (pv 1) pe_int (fun _ _ => rfl)) pa_nil))))))
        (pss_cons (ps_for PassesOwn.never rfl (pi_range1 (by rfl) gr (pa_cons (pv 4) pa_nil)) (pg_name (i := 6) nd rfl (Or.inl rfl)) (pss_one (ps_set (i := 5) nd rfl (Or.inl rfl) (pe_cl O1 hr (pa_cons (pv 5) (pa_cons (pe_ix ix_tup (pv 1) pe_int (fun _ _ => rfl)) pa_nil))))))
        (pss_one (ps_set (i := 2) nd rfl (Or.inl rfl) (pe_cl O2 hr (pa_cons (pv 2) (pa_cons (pv 5) pa_nil))))))))))
      (pss_one (ps_ret (pv 2)))), ?_⟩
    have pE : ∀ n, n ≤ 6 → Sz (En ^ n) (m ^ n) := fun n hn => ⟨Nat.lt_of_le_of_lt (pow_le_of zx.pos hn) szp.1, Nat.lt_of_le_of_lt (pow_le_of mp hn) szp.2⟩
    have x1 : NB 4000 px := IB.sz zx (by have := pE 1 (by omega); rw [Nat.pow_one, Nat.pow_one] at this; exact this)
    have y1 : NB 4000 py := IB.sz zy (by have := pE 1 (by omega); rw [Nat.pow_one, Nat.pow_one] at this; exact this)
    refine ⟨D, .dT kvs, hD, True.intro, fun od => ?_⟩
    have kD : Kp D H (upd H D (.frz od (.dT kvs))) := Kp.upd _
    have hD8 : (upd H D (.frz od (.dT kvs))) D = some (.frz od (.dT kvs)) := upd_same
    have hp8 := kD _ _ (fun z => by rw [z, hD] at hp; cases hp) hp
    have hpa8 := hpa.kp (num_notD hD) kD
    have hpb8 := hpb.kp (num_notD hD) kD
    have kp8 : Paired (fun kv t => kv.1 = k2 (pr t) ∧ NumV (upd H D (.frz od (.dT kvs))) kv.2 t.2.2) kvs (terms f) := Paired.mapP kp fun kv t h => ⟨h.1, h.2.kp (num_notD hD) kD⟩
    generalize upd H D (.frz od (.dT kvs)) = H8 at kD hD8 hp8 hpa8 hpb8 kp8
    refine ⟨_, rfl, D, od, rfl, .inr ⟨kvs, hD8, ?_⟩⟩
    have kl := Paired.length kp
    refine for_keysT (fun i σ H' => ∃ u o3 o4 o5 o6, σ = [some (.ref D), some (.ref pp), some u, o3, o4, o5, o6] ∧ Same H8 H' ∧ NumV H' u (evl ((terms f).take i) px py))
      ⟨_, _, _, _, _, rfl, Same.refl _, .inl ⟨rfl, rfl⟩⟩ (fun i σ H' p => ?_) (fun i k v b σ H' e hb p => ?_) (fun σ H' p => ?_)
    · obtain ⟨u, o3, o4, o5, o6, _, s', _⟩ := p
      exact s' _ _ hD8
    · obtain ⟨u, o3, o4, o5, o6, rfl, s', hu⟩ := p
      obtain ⟨t, et, ek, _⟩ := L2.paired_get kp e
      dsimp only at ek
      subst ek
      have tmm := List.mem_of_getElem? et
      have l6 := (terms_of tmm).1
      obtain ⟨n, gn, hn⟩ := DictE.at_ kp8 et
      have hnb := zf.sl.term tmm
      have hb' : H' b = some (.tup [.int (t.1 : Int), .int (t.2.1 : Int)]) := hb
      refine ⟨b, _, rfl, tupAt hb', rfl, _, _, rfl, _, _, rfl, rfl, ?_⟩
      refine ⟨_, rfl, _, rfl, _, rfl, s2, fun p np => ⟨D, n, rfl, ?_, ?_⟩⟩
      · rw [← gn]
        exact .inr ⟨kvs, _, p, .inr ⟨od, same_upd np _ _ (s' _ _ hD8)⟩, rfl, upd_same, rfl⟩
      · have s6 : Same H' (upd H' p (.tup [.int (t.1 : Int), .int (t.2.1 : Int)])) := same_upd np
        generalize upd H' p (.tup [.int (t.1 : Int), .int (t.2.1 : Int)]) = H6 at s6
        have s86 := s'.trans s6
        refine ⟨_, rfl, (t.1 : Int), rfl, (r62 (by omega)).1, (r62 (by omega)).2, ?_⟩
        refine for_range (lo := 0) (n := t.1) (fun k σ H' => ∃ z o6, σ = [some (.ref D), some (.ref pp), some u, some (.int (t.1 : Int)), some (.int (t.2.1 : Int)), some z, o6] ∧ Same H6 H' ∧ NumV H' z (t.2.2 * px ^ k)) ⟨n, _, rfl, Same.refl _, by rw [Rat.pow_zero, Rat.mul_one]; exact hn.same s86⟩ (fun k σ H7 lt p => ?_) (fun σ H7 p => ?_)
        · obtain ⟨z, o6, rfl, s7, hz⟩ := p
          have s87 := s86.trans s7
          refine ⟨_, rfl, _, rfl, pp, _, 0, pa, rfl, rfl, tupAt (s87 _ _ hp8), rfl, z, pa, _, px, rfl, hz, hpa8.same s87, ?_, x1, True.intro, fun z2 H9 s9 hz2 => ⟨z2, _, rfl, s7.trans s9, ?_⟩⟩
          · refine IB.sz (hnb.mul (IB.pow zx k)) ⟨Nat.lt_of_le_of_lt (Nat.mul_le_mul_left _ (pow_le_of zx.pos (by omega))) sz.1, Nat.lt_of_le_of_lt (Nat.mul_le_mul_left _ (pow_le_of mp (by omega))) sz.2⟩
          · rw [Rat.pow_succ, ← Rat.mul_assoc]
            exact hz2
        · obtain ⟨z, o6, rfl, s7, hz⟩ := p
          have s87 := s86.trans s7
          refine ⟨_, rfl, (t.2.1 : Int), rfl, (r62 (by omega)).1, (r62 (by omega)).2, ?_⟩
          refine for_range (lo := 0) (n := t.2.1) (fun k σ H' => ∃ z o6, σ = [some (.ref D), some (.ref pp), some u, some (.int (t.1 : Int)), some (.int (t.2.1 : Int)), some z, o6] ∧ Same H7 H' ∧ NumV H' z (t.2.2 * (px ^ t.1 * py ^ k))) ⟨z, _, rfl, Same.refl _, by rw [Rat.pow_zero, Rat.mul_one]; exact hz⟩ (fun k σ H9 lt p => ?_) (fun σ H9 p => ?_)
          · obtain ⟨z, o6, rfl, s9, hz⟩ := p
            have s89 := s87.trans s9
            refine ⟨_, rfl, _, rfl, pp, _, 1, pb, rfl, rfl, tupAt (s89 _ _ hp8), rfl, z, pb, _, py, rfl, hz, hpb8.same s89, ?_, y1, True.intro, fun z2 H10 s10 hz2 => ⟨z2, _, rfl, s9.trans s10, ?_⟩⟩
            · exact IB.sz (hnb.mul (pow_nat_lift le (show t.1 + k ≤ 6 by omega) zx zy)) sz
            · rw [Rat.pow_succ, ← Rat.mul_assoc, ← Rat.mul_assoc]
              rw [← Rat.mul_assoc] at hz2
              exact hz2
          · obtain ⟨z, o6, rfl, s9, hz⟩ := p
            have pre : ∀ k, SL Dn M ((terms f).take k) := fun k => SL.pre (m := (terms f).drop k) (by rw [List.take_append_drop]; exact zf.sl)
            have low : ∀ k, Low ((terms f).take k) := fun k r hr => low_terms f r (List.mem_of_mem_take hr)
            have s69 := (s6.trans s7).trans s9
            refine ⟨_, rfl, _, rfl, u, z, _, _, rfl, hu.same s69, hz, IB.sz ((pre i).evl (low i) le zx zy) sz, IB.sz (hnb.mul (pow_nat_lift le l6 zx zy)) sz, True.intro, fun w5 H10 s10 hw5 => ?_⟩
            refine ⟨w5, _, _, _, _, rfl, s'.trans (s69.trans s10), ?_⟩
            have e : evl ((terms f).take (i + 1)) px py = evl ((terms f).take i) px py + t.2.2 * (px ^ t.1 * py ^ t.2.1) := by
              rw [take_snoc et, evl_append, evl_cons]
              show _ + (_ + (0 : Rat)) = _
              grind
            rw [e]
            exact hw5
    · obtain ⟨u, o3, o4, o5, o6, rfl, s', hu⟩ := p
      rw [kl, List.take_length, evl_terms] at hu
      have hD9 := s' _ _ hD8
      refine ⟨hD9, ?_⟩
      have nD9 : NoT H' D := fun xs z => by rw [hD9] at z; cases z
      have kD2 : Kp D H' (upd H' D (.dT kvs)) := Kp.upd _
      have sF : Same H (upd H' D (.dT kvs)) := fun b o eb => by
        by_cases bD : b = D
        · subst bD
          rw [upd_same]
          exact hD.symm.trans eb
        · exact kD2 _ _ bD (s' _ _ (kD _ _ bD eb))
      exact ⟨_, rfl, q _ _ sF (hu.kp nD9 kD2)⟩
end
end Kd

namespace Kd
open PySem PySem.Spec PyProof.Rows L2 Pk
/-! ### how long what is shown is -/
theorem tup_short (ts : List Str) : (tupleText ts).length ≤ piled ts + 3 := by
  unfold tupleText
  rw [strLen_append, strLen_append]
  have e1 : ((("(" : String) : Str)).length = 1 := rfl
  have e3 : (((if ts.length == 1 then ",)" else ")" : String) : Str)).length ≤ 2 := by split <;> decide
  rw [e1]
  by_cases h : ts = []
  · subst h
    have : (Str.join ", " ([] : List Str)).length = 0 := rfl
    omega
  · have := join_length_add ts h
    omega
theorem lst_short (ts : List Str) : (listText ts).length ≤ piled ts + 2 := by
  unfold listText
  rw [strLen_append]
  have e1 : ((("]" : String) : Str)).length = 1 := rfl
  rw [e1]
  cases ts with
  | nil =>
    have : (textFrom 0 "[" ([] : List Str)).length = 1 := rfl
    omega
  | cons t r =>
    have e : textFrom 0 "[" (t :: r) = textFrom 1 (("[" : Str) ++ (("" : String) : Str) ++ t) r := rfl
    rw [e, textFrom_length_pos r 1 _ (by decide), strLen_append, strLen_append, piled_cons]
    have e2 : ((("[" : String) : Str)).length = 1 := rfl
    have e3 : ((("" : String) : Str)).length = 0 := rfl
    rw [e2, e3]
    omega
structure RepOk (d : PyData) : Prop where
  sh : d.showable = true
  nd : d.hasDict = false
  dp : d.depth ≤ 20
  ln : d.shown.length ≤ sizeLine
theorem int_sh {i : Int} (h : i.natAbs < 2 ^ 1900) : i.natAbs.log2 < 1920 := Nat.lt_of_lt_of_le (PySem.Flt.log2_lt_of (k := 1900) (by decide) h) (by decide)
theorem int_ln {i : Int} (h : i.natAbs < 2 ^ 1900) : (PyData.int i).shown.length ≤ 1921 := PyProof.Rows.int_text_len_1921 (int_sh h)
theorem numD_props {r : Rat} (h : NB 1900 r) : (numD r).showable = true ∧ (numD r).hasDict = false ∧ (numD r).depth ≤ 1 ∧ (numD r).shown.length ≤ 4000 := by
  have h1 := int_sh h.num
  have h2 : ((r.den : Int)).natAbs < 2 ^ 1900 := by rw [Int.natAbs_natCast]; exact h.den
  have h3 := int_ln h.num
  have h4 := int_ln h2
  unfold numD
  split
  · exact ⟨decide_eq_true h1, rfl, by simp [PyData.depth], Nat.le_trans h3 (by decide)⟩
  · refine ⟨?_, rfl, by simp [PyData.depth, PyData.depthAll], ?_⟩
    · show (decide _ && (decide _ && true)) = true
      rw [decide_eq_true h1, decide_eq_true (int_sh h2)]
      rfl
    · have := tup_short [(PyData.int r.num).shown, (PyData.int (r.den : Int)).shown]
      rw [piled_cons, piled_cons, piled_nil] at this
      show (tupleText [(PyData.int r.num).shown, (PyData.int (r.den : Int)).shown]).length ≤ 4000
      omega
theorem numD_rep {r : Rat} (h : NB 1900 r) : RepOk (numD r) := by
  obtain ⟨h1, h2, h3, h4⟩ := numD_props h
  exact ⟨h1, h2, by omega, Nat.le_trans h4 (by rw [sizeLine_eq]; decide)⟩
theorem nat_small {n : Nat} (h : n ≤ 6) : ((n : Int)).natAbs < 2 ^ 1900 := by
  rw [Int.natAbs_natCast]
  exact Nat.lt_of_le_of_lt h (by decide +kernel)
theorem termD_props {t : Pk.Tm} (lo : t.1 + t.2.1 ≤ 6) (h : NB 1900 t.2.2) : (termD t).showable = true ∧ (termD t).hasDict = false ∧ (termD t).depth ≤ 2 ∧ (termD t).shown.length ≤ 7900 := by
  obtain ⟨h1, h2, h3, h4⟩ := numD_props h
  have a1 := nat_small (show t.1 ≤ 6 by omega)
  have a2 := nat_small (show t.2.1 ≤ 6 by omega)
  have l1 := int_ln a1
  have l2 := int_ln a2
  refine ⟨?_, ?_, ?_, ?_⟩
  · show (decide _ && (decide _ && (PyData.showable (numD t.2.2) && true))) = true
    rw [decide_eq_true (int_sh a1), decide_eq_true (int_sh a2), h1]
    rfl
  · show (false || (false || (PyData.hasDict (numD t.2.2) || false))) = false
    rw [h2]
    rfl
  · show max 0 (max 0 (max (PyData.depth (numD t.2.2)) 0)) + 1 ≤ 2
    omega
  · have := tup_short [(PyData.int (t.1 : Int)).shown, (PyData.int (t.2.1 : Int)).shown, (numD t.2.2).shown]
    rw [piled_cons, piled_cons, piled_cons, piled_nil] at this
    show (tupleText [(PyData.int (t.1 : Int)).shown, (PyData.int (t.2.1 : Int)).shown, (numD t.2.2).shown]).length ≤ 7900
    omega
theorem termsD_props : ∀ {ts : List Pk.Tm}, (∀ t ∈ ts, t.1 + t.2.1 ≤ 6 ∧ NB 1900 t.2.2) → PyData.showableAll (ts.map termD) = true ∧ PyData.hasDictAll (ts.map termD) = false ∧ PyData.depthAll (ts.map termD) ≤ 2 ∧ piled (PyData.shownAll (ts.map termD)) ≤ 7902 * ts.length
  | [], _ => ⟨rfl, rfl, by simp [PyData.depthAll], by rw [List.length_nil]; exact Nat.le_refl _⟩
  | t :: ts, h => by
    obtain ⟨i1, i2, i3, i4⟩ := termsD_props (ts := ts) fun u hu => h u (List.mem_cons_of_mem _ hu)
    obtain ⟨lo, nb⟩ := h t List.mem_cons_self
    obtain ⟨h1, h2, h3, h4⟩ := termD_props lo nb
    refine ⟨?_, ?_, ?_, ?_⟩
    · show (PyData.showable (termD t) && PyData.showableAll (ts.map termD)) = true
      rw [h1, i1]
      rfl
    · show (PyData.hasDict (termD t) || PyData.hasDictAll (ts.map termD)) = false
      rw [h2, i2]
      rfl
    · show max (PyData.depth (termD t)) (PyData.depthAll (ts.map termD)) ≤ 2
      omega
    · show piled ((termD t).shown :: PyData.shownAll (ts.map termD)) ≤ _
      rw [piled_cons, List.length_cons]
      omega
theorem two_rep {f g : Co} (hf : ∀ t ∈ terms f, NB 1900 t.2.2) (hg : ∀ t ∈ terms g, NB 1900 t.2.2) : RepOk (.list [termsD (terms f), termsD (terms g)]) := by
  have one : ∀ {f : Co}, (∀ t ∈ terms f, NB 1900 t.2.2) → (termsD (terms f)).showable = true ∧ (termsD (terms f)).hasDict = false ∧ (termsD (terms f)).depth ≤ 3 ∧ (termsD (terms f)).shown.length ≤ 221260 := fun {f} h => by
    obtain ⟨h1, h2, h3, h4⟩ := termsD_props (ts := terms f) fun t ht => ⟨(terms_of ht).1, h t ht⟩
    refine ⟨h1, h2, ?_, ?_⟩
    · show PyData.depthAll ((terms f).map termD) + 1 ≤ 3
      omega
    · have := tup_short (PyData.shownAll ((terms f).map termD))
      have l28 := terms_len f
      show (tupleText (PyData.shownAll ((terms f).map termD))).length ≤ 221260
      omega
  obtain ⟨a1, a2, a3, a4⟩ := one hf
  obtain ⟨b1, b2, b3, b4⟩ := one hg
  refine ⟨?_, ?_, ?_, ?_⟩
  · show (PyData.showable (termsD (terms f)) && (PyData.showable (termsD (terms g)) && true)) = true
    rw [a1, b1]
    rfl
  · show (PyData.hasDict (termsD (terms f)) || (PyData.hasDict (termsD (terms g)) || false)) = false
    rw [a2, b2]
    rfl
  · show max (PyData.depth (termsD (terms f))) (max (PyData.depth (termsD (terms g))) 0) + 1 ≤ 20
    omega
  · have := lst_short [(termsD (terms f)).shown, (termsD (terms g)).shown]
    rw [piled_cons, piled_cons, piled_nil] at this
    show (listText [(termsD (terms f)).shown, (termsD (terms g)).shown]).length ≤ sizeLine
    rw [sizeLine_eq]
    omega
end Kd

namespace Kd
open PySem PySem.Spec PyProof.Rows L2 Pk
/-! ### x != y of two instances with an own ==, none of their own for != -/
section
variable {M : Model} {prog : Program} {w : World} {A : Around} {E : Value → Shared → Prop} {s : Shared} {K : PySem.W.Frag} {x C f : Addr} {ox : Obj} {od : Option Obj} {b : Value}
theorem if_ne {args : List Value} {Q : Option Value → Shared → Prop} (KX : K.In s.heap) (J : PySem.W.InstAt s.heap x ox C od) (hs : PySem.W.findIn K (.ref C) "__ne__" = some (some (.builtin "object.__ne__")))
    (h : wpAny M A (call (.builtin "object.__ne__") (.ref x :: args)) (fun v => Q (some v)) E s) : wpAny M A (callSpecialIfBound? (.ref x) "__ne__" args) Q E s := by
  simp only [callSpecialIfBound?, bindSpecialIfBound?]
  refine wpAny_holding (wpAny_bind (wpAny_bind (wpAny_bind (J.type.here ((PySem.W.looks_findIn KX hs).here ?_)))))
  refine wpAny_bind (wpAny_askSetting (wpAny_ite ?_))
  have last : wpAny M A (call (.builtin "object.__ne__") ([.ref x] ++ args) >>= fun v => pure (some v)) Q E s := wpAny_bind (wpAny_mono h (fun v s' z => wpAny_pure z) fun _ _ z => z)
  split
  · exact wpAny_bind (wpAny_of_eq (F.cmp_object.ne.bind _) (wpAny_pure (by exact last)))
  · exact wpAny_tryCatch (wpAny_bind (wpAny_of_eq (F.cmp_object.ne.bind _) (wpAny_pure (by exact last))))
theorem ne_body (KX : K.In s.heap) (J : PySem.W.InstAt s.heap x ox C od) (he : PySem.W.findIn K (.ref C) "__eq__" = some (some (.ref f))) (hf : PySem.W.isFn K (.ref f) = true) (hu : A.units < cLine) {Q : Fin → Shared → Prop}
    (hc : wpAny M A (call (.ref f) [.ref x, b]) (fun v s' => ∃ k, v = .bool k ∧ Q (.done (.ret (.bool (!k)))) s') E s) : wpAny M A (Builtin.«object.__ne__» ⟨[.ref x, b], []⟩) Q E s := by
  unfold Builtin.«object.__ne__»
  repeat (first
    | with_reducible refine wpAny_cRoomFor hu ?_
    | (refine wpAny_bind (m := callSpecialIfBound? (.ref x) (Str.ofString "__eq__") [b])
        (PySem.W.ifBound_K KX J he hf (wpAny_mono hc (fun r s' z => by
          obtain ⟨k, rfl, hq⟩ := z
          repeat (first | exact hq | exact wpAny_pure hq | exact wpAny_truthy_bool hq | (refine wpAny_bind (m := truthy (.bool _)) (wpAny_truthy_bool ?_)) | wp_step)) fun _ _ z => z)))
    | wp_step)
theorem cmp_ne {tb : Value} {Q : Value → Shared → Prop} (hu : A.units + 1 < cLine) (KX : K.In s.heap) (J : PySem.W.InstAt s.heap x ox C od) (hb : PySem.W.Looks (model prog w) s.heap (typeOf b) tb) (hn : tb = .ref C)
    (hs : PySem.W.findIn K (.ref C) "__ne__" = some (some (.builtin "object.__ne__"))) (hm : PySem.W.mroIn K C (.type "object") = some true) (he : PySem.W.findIn K (.ref C) "__eq__" = some (some (.ref f))) (hf : PySem.W.isFn K (.ref f) = true)
    (h : wpAny (model prog w) A.in1 (call (.ref f) [.ref x, b]) (fun v s' => ∃ k, v = .bool k ∧ Q (.bool (!k)) s') E s) : wpAny (model prog w) A (richCompare .NotEq (.ref x) b) Q E s := by
  subst hn
  have one : wpAny (model prog w) A (tryCompare (.ref x) "__ne__" b) (fun r s' => ∃ v, r = some v ∧ Q v s') E s := by
    unfold tryCompare
    refine wpAny_bind (if_ne KX J hs (wpAny_call (codeAny_call_builtin F.cmp_object.ne.plain F.cmpEntry_ne
      (PySem.W.check_slot F.cmpKind_ne F.cmpSplit_ne (J.type.andThen (PySem.W.looks_mroIn KX hm)) (F.cmpArgs_ne _ _) (ne_body (A := A.in1) KX J he hf (by show A.units + 1 < cLine; omega) (wpAny_mono h (fun v s' z => ?_) fun _ _ z => z))))))
    obtain ⟨k, rfl, hq⟩ := z
    exact ⟨k, rfl, wpAny_pure ⟨_, rfl, hq⟩⟩
  unfold richCompare
  simp only [oneThing_ref]
  refine wpAny_holding (wpAny_bind (wpAny_cRoomFor (Nat.lt_of_succ_lt hu) ?_))
  rw [cmpInfo_NotEq]
  dsimp only
  refine wpAny_bind (J.type.here (wpAny_bind (hb.here ?_)))
  rw [show (Value.ref C != Value.ref C) = false from by simp]
  simp only [Bool.false_eq_true, if_false]
  refine wpAny_bind (wpAny_pure ?_)
  simp only [Bool.false_eq_true, if_false]
  refine wpAny_bind (wpAny_mono one (fun r s' z => ?_) fun _ _ z => z)
  obtain ⟨v, rfl, hq⟩ := z
  exact wpAny_pure hq
end
section
variable {X : Cx} {n : Nat}
theorem op_neIns {CX : CXT} {C f : Addr} {fd : FuncData} {ps : List Str} {R : Addr → Addr → Hp → Prop} {E : XK} (F : FnOk X.prog X.w X.K X.mg X.base CX n f fd ps (spEq R))
    (he : PySem.W.findIn X.K (.ref C) "__eq__" = some (some (.ref f))) (hf : PySem.W.isFn X.K (.ref f) = true) (hb : Binds X.K fd ps []) (hx : Passes CX X E)
    (hs : PySem.W.findIn X.K (.ref C) "__ne__" = some (some (.builtin "object.__ne__"))) (hm : PySem.W.mroIn X.K C (.type "object") = some true) (hr : Room (n + 1) X.A) :
    OpR X (compareOp .NotEq) (fun x y H Q => DIns C R x y H ∧ ∀ H', Ext H H' → Q (.bl false) H') := by
  intro pins s σ H x y u v Q I rx ry hq
  obtain ⟨⟨a, b, dx, dy, fs, gs, rfl, rfl, ha, hb', hr'⟩, q⟩ := hq
  cases rx
  cases ry
  obtain ⟨mA, J, _⟩ := ins_get I.hok ha
  obtain ⟨mB, J', _⟩ := ins_get I.hok hb'
  obtain ⟨od, J, _⟩ := J.look
  obtain ⟨od', J', _⟩ := J'.look
  show wpAny (model X.prog X.w) X.A (richCompare .NotEq (.ref a) (.ref b)) (EP X pins σ Q) X.xe s
  refine cmp_ne (by have := hr.un; omega) I.kIn J J'.type rfl hs hm he hf ?_
  have hsp : spEq R [.ref a, .ref b] H (fun v H' => v = .bl true ∧ Ext H H') E := ⟨a, b, rfl, hr', fun H' e => ⟨rfl, e⟩⟩
  have hl := F.len _ _ _ _ hsp
  have r2 : Vals [V.ref a, V.ref b] [Value.ref a, Value.ref b] := .cons rfl (.cons rfl .nil)
  refine wpAny_call (codeAny_mono (F.run X.A.in1 X.stack s H ⟨[.ref a, .ref b], []⟩ [.ref a, .ref b] [.ref a, .ref b] _ E hr.in1 I.env0.in1 (by
    have := hb s [.ref a, .ref b] I.kIn (by simpa using hl)
    simpa using this) r2 hsp) fun r s' hq => ?_)
  cases r with
  | error e => exact hx pins σ H s e s' I hq
  | ok fl =>
    cases fl with
    | ret w =>
      obtain ⟨z, H', I', rz, ez, ex⟩ := I.after hq
      subst ez
      cases rz
      exact ⟨true, rfl, .bl false, H', I', rfl, q H' ex⟩
    | next => exact False.elim hq
    | brk => exact False.elim hq
    | cont => exact False.elim hq
end
end Kd

namespace Kd
open PySem PySem.Spec PyProof.Rows L2 Pk
theorem l7 {n : Nat} (h : n ≤ 3) : n ≤ sizeLine := sz (by omega)
/-- the own ==, and that != is what the built-in makes of it -/
structure PolyE (P : Program) (w : World) (K : PySem.W.Frag) (mg : Str → Option Value) (base : Heap) (C : Addr) : Prop where
  eqf : ∃ f fd, FnOk P w K mg base CX0 1 f fd ["self", "other"] (spEq (SameP C)) ∧ PySem.W.findIn K (.ref C) "__eq__" = some (some (.ref f)) ∧ PySem.W.isFn K (.ref f) = true ∧ Binds K fd ["self", "other"] []
  ne : PySem.W.findIn K (.ref C) "__ne__" = some (some (.builtin "object.__ne__"))
theorem PolyV.both {C : Addr} {H : Hp} {u v : V} {f : Co} (h : PolyV C H u f) (h2 : PolyV C H v f) : DIns C (SameP C) u v H := by
  obtain ⟨x, rfl, a⟩ := h
  obtain ⟨y, rfl, b⟩ := h2
  obtain ⟨dx, q, us, a1, _⟩ := id a
  obtain ⟨dy, q2, us2, b1, _⟩ := id b
  exact ⟨x, y, dx, dy, _, _, rfl, rfl, a1, b1, f, a, b⟩
theorem PolyV.kpl {C : Addr} {a : Addr} {t : Nat} {H H' : Hp} {v : V} {f : Co} (h : PolyV C H v f) (l : LatheV H a t) (k : Kp a H H') : PolyV C H' v f := h.kp l.noT l.noI k
/-- a slope by its unknown -/
structure Slp (z : Str) (s : Co → Co) : Prop where
  is : ∀ f, (z = ("x" : Str) ∧ s f = dx f) ∨ (z = ("y" : Str) ∧ s f = dy f)
  dg : ∀ d f, Dg d f → Dg d (s f)
  sc : ∀ D M f, SC D M f → Lw f → SC D (M * 6) (s f)
  ml : ∀ d e f g, Dg d f → Dg e g → d + e ≤ 6 → s (Pk.mul f g) = Pk.add (Pk.mul (s f) g) (Pk.mul f (s g))
theorem slp_x : Slp "x" dx := ⟨fun _ => .inl ⟨rfl, rfl⟩, fun _ _ h => dx_dg h, fun _ _ _ h lw => h.dx lw, fun _ _ _ _ h1 h2 le => dx_mul h1 h2 le⟩
theorem slp_y : Slp "y" dy := ⟨fun _ => .inr ⟨rfl, rfl⟩, fun _ _ h => dy_dg h, fun _ _ _ h lw => h.dy lw, fun _ _ _ _ h1 h2 le => dy_mul h1 h2 le⟩
theorem SC.nb {D M n : Nat} {f : Co} (h : SC D M f) (h1 : D < 2 ^ n) (h2 : M < 2 ^ n) : ∀ t ∈ terms f, NB n t.2.2 := fun t ht => (h.sl.term ht).nb h1 h2
section
variable {P : Program} {w : World} {K : PySem.W.Frag} {mg : Str → Option Value} {base : Heap} {C : Addr}
def spSlopeRight (C : Addr) : Sp := fun vs H Q _ => ∃ a t v f, vs = [.ref a, v] ∧ LatheV H a t ∧ t ≤ 7000 ∧ PolyV C H v f ∧ Drawn 6 f ∧ ∀ H', Kp a H H' → LatheV H' a (t + 10) → Q (.bl true) H'
theorem ok_slope_right (R : Row K mg "_law_slope_right" (top 68) ["_law_lathe_here", "_law_poly_here"]) (PC : PolyC P w K mg base C) (PE : PolyE P w K mg base C) (gp : mg "repr" = none) (OT : Okk P w K mg base "_law_times" 3 ["_law_one", "_law_other"] spMul) (OS : OkW P w K mg base "slope" 8 ["poly", "unknown"] (spSlope C))
    (OTe : Okk P w K mg base "_law_terms" 1 ["_law_found"] spTerms) (OP : Okk P w K mg base "_law_poly" 7 ["_law_lathe_here", "_law_degree", "_law_many"] (spLawPoly C)) (OO : Okk P w K mg base "_law_one_of" 2 ["_law_lathe_here", "_law_some_here"] spOneOf)
    (OA : Okk P w K mg base "poly_sum" 9 ["one", "other"] (spSumOf C)) (OM : Okk P w K mg base "poly_product" 9 ["one", "other"] (spProductOf C)) : Okg P w K mg base "_law_slope_right" 12 ["_law_lathe_here", "_law_poly_here"] (spSlopeRight C) := by
  obtain ⟨fE, fdE, FE, he, hfe, bE⟩ := PE.eqf
  refine okg R sc_law_slope_right (fun vs H Q E h => ?_) (fun f cdv A outer s H vs Q E gd hr h => ?_)
  · obtain ⟨a, t, v, f, rfl, _⟩ := h
    rfl
  · obtain ⟨a, t, v, f, rfl, hl, t4, hv, ⟨dgf, zf⟩, q⟩ := h
    have nd := sc_law_slope_right.nd
    refine ⟨_, pss_cons (ps_par (i := 2) (j := 3) (by rfl) nd rfl rfl (by decide) rfl rfl (pa_cons pe_dnewT (pa_cons pe_dnewT pa_nil)) (by rfl))
      (pss_cons (ps_for PassesOwn.never rfl (pi_tup (pe_fld (pv 1) (by rfl))) (pg_tup rfl (pgs_cons (pg_name (i := 4) nd rfl (Or.inl rfl)) (pgs_cons (pg_name (i := 5) nd rfl (Or.inl rfl)) (pgs_cons (pg_name (i := 6) nd rfl (Or.inl rfl)) pgs_nil))))
        (pss_cons (ps_if (pt_cmpR op_gt (pv 4) pe_int (nomark _)) (pss_one (ps_dput (u1 hr) (pv 2) (pe_tup (pa_cons (pe_op op_sub (pv 4) pe_int) (pa_cons (pv 5) pa_nil))) (pe_cl OT hr (pa_cons (pv 4) (pa_cons (pv 6) pa_nil))) (by rfl))) pss_nil)
        (pss_one (ps_if (pt_cmpR op_gt (pv 5) pe_int (nomark _)) (pss_one (ps_dput (u1 hr) (pv 3) (pe_tup (pa_cons (pv 4) (pa_cons (pe_op op_sub (pv 5) pe_int) pa_nil))) (pe_cl OT hr (pa_cons (pv 5) (pa_cons (pv 6) pa_nil))) (by rfl))) pss_nil))))
      (pss_cons (ps_if (pt_cmpR op_ne (pe_callB (call_reprD gd hr.units) (by rfl) gp (by decide +kernel) (pa_cons (pe_lst (pa_cons (pe_fld (pe_cl OS.ok hr (pa_cons (pv 1) (pa_cons pe_str pa_nil))) (by rfl)) (pa_cons (pe_fld (pe_clw OS hr (pk_cons pe_str (pk_cons (pv 1) pk_nil))) (by rfl)) pa_nil))) pa_nil))
          (pe_callB (call_reprD gd hr.units) (by rfl) gp (by decide +kernel) (pa_cons (pe_lst (pa_cons (pe_cl OTe hr (pa_cons (pv 2) pa_nil)) (pa_cons (pe_cl OTe hr (pa_cons (pv 3) pa_nil)) pa_nil))) pa_nil)) (nomark _)) (pss_one (ps_ret pe_bl)) pss_nil)
      (pss_cons (ps_par (i := 7) (j := 8) (by rfl) nd rfl rfl (by decide) rfl rfl (pa_cons (pe_cl OP hr (pa_cons (pv 0) (pa_cons (pe_op op_sub pe_int (pe_fld (pv 1) (by rfl))) (pa_cons pe_int pa_nil)))) (pa_cons (pe_cl OO hr (pa_cons (pv 0) (pa_cons (pe_lst (pa_cons pe_str (pa_cons pe_str pa_nil))) pa_nil))) pa_nil)) (by rfl))
      (pss_cons (ps_set (i := 9) nd rfl (Or.inl rfl) (pe_cl OA hr (pa_cons (pe_cl OM hr (pa_cons (pe_cl OS.ok hr (pa_cons (pv 1) (pa_cons (pv 8) pa_nil))) (pa_cons (pv 7) pa_nil))) (pa_cons (pe_cl OM hr (pa_cons (pv 1) (pa_cons (pe_cl OS.ok hr (pa_cons (pv 7) (pa_cons (pv 8) pa_nil))) pa_nil))) pa_nil))))
      (pss_one (ps_ret (pe_cmpR (op_eqG (rcG_ins FE he hfe bE pass0) (hr.mono (by decide))) (pe_cl OS.ok hr (pa_cons (pe_cl OM hr (pa_cons (pv 1) (pa_cons (pv 7) pa_nil))) (pa_cons (pv 8) pa_nil))) (pv 9) (nomark _)))))))), ?_⟩
    have bt : ∀ t ∈ terms f, NB 4000 t.2.2 := SC.nb zf (by decide +kernel) (by decide +kernel)
    refine fun Dx nDx => fun Dy nDy => ?_
    have sX : Same H (upd H Dx (.dT [])) := same_upd nDx
    have hDx0 : (upd H Dx (.dT [])) Dx = some (.dT []) := upd_same
    have dne : Dx ≠ Dy := fun z => by rw [← z, hDx0] at nDy; cases nDy
    have nDyH : H Dy = none := by rw [upd_ne dne.symm] at nDy; exact nDy
    have sY : Same (upd H Dx (.dT [])) (upd (upd H Dx (.dT [])) Dy (.dT [])) := same_upd nDy
    have hDy0 : (upd (upd H Dx (.dT [])) Dy (.dT [])) Dy = some (.dT []) := upd_same
    have hDx1 := sY _ _ hDx0
    have s0 := sX.trans sY
    dsimp only
    refine ⟨_, _, rfl, ?_⟩
    generalize upd (upd H Dx (.dT [])) Dy (.dT []) = H1 at s0 hDx1 hDy0
    obtain ⟨x, rfl, dx', qa, us, a1, a2, a3, lw⟩ := id hv
    refine ⟨_, rfl, x, C, dx', _, _, rfl, s0 _ _ a1, PC.cls, PC.nt, rfl, qa, rfl, ⟨_, tupAt (s0 _ _ a2)⟩, ?_⟩
    refine for_tup (xs := us) (fun i σ H' => ∃ o4 o5 o6 kx ky, σ = [some (.ref a), some (.ref x), some (.ref Dx), some (.ref Dy), o4, o5, o6, none, none, none] ∧ Same H H' ∧ H' Dx = some (.dT kx) ∧ H' Dy = some (.dT ky) ∧ DV H' kx (co (dxl ((terms f).take i))) ∧ DV H' ky (co (dyl ((terms f).take i))))
      ⟨_, _, _, [], [], rfl, s0, hDx1, hDy0, DV.nil0 _, DV.nil0 _⟩ (fun i σ H' _ p => ?_) (fun i z σ H' e p => ?_) (fun σ H' p => ?_)
    · obtain ⟨o4, o5, o6, kx, ky, _, s', _⟩ := p
      exact tupAt (s' _ _ a2)
    · obtain ⟨o4, o5, o6, kx, ky, rfl, s', hDx, hDy, dvx, dvy⟩ := p
      obtain ⟨t, et, ht⟩ := tv_get a3 e
      have tmm := List.mem_of_getElem? et
      have l6 := (terms_of tmm).1
      obtain ⟨b, m, rfl, hb, hm⟩ := ht.same s'
      have snx := dxl_snoc ((terms f).take i) t
      have sny := dyl_snoc ((terms f).take i) t
      rw [← take_snoc et] at snx sny
      refine ⟨b, _, rfl, tupAt hb, rfl, _, _, rfl, _, _, rfl, _, _, rfl, rfl, ?_⟩
      by_cases cx : t.1 = 0
      · by_cases cy : t.2.1 = 0
        · refine ⟨_, rfl, _, _, rfl, rfl, _, rfl, ?_⟩
          rw [decide_eq_false (show ¬ (0 : Int) < (t.1 : Int) by omega)]
          refine iteF ?_
          dsimp only [tNext]
          rw [if_pos cx, List.append_nil] at snx
          rw [← snx] at dvx
          refine ⟨_, rfl, _, _, rfl, rfl, _, rfl, ?_⟩
          rw [decide_eq_false (show ¬ (0 : Int) < (t.2.1 : Int) by omega)]
          refine iteF ?_
          dsimp only [tNext]
          rw [if_pos cy, List.append_nil] at sny
          rw [← sny] at dvy
          exact ⟨_, _, _, _, _, rfl, s', hDx, hDy, dvx, dvy⟩
        · refine ⟨_, rfl, _, _, rfl, rfl, _, rfl, ?_⟩
          rw [decide_eq_false (show ¬ (0 : Int) < (t.1 : Int) by omega)]
          refine iteF ?_
          dsimp only [tNext]
          rw [if_pos cx, List.append_nil] at snx
          rw [← snx] at dvx
          refine ⟨_, rfl, _, _, rfl, rfl, _, rfl, ?_⟩
          rw [decide_eq_true (show (0 : Int) < (t.2.1 : Int) by omega)]
          refine iteT ?_
          rw [if_neg cy] at sny
          refine ⟨_, rfl, _, rfl, _, m, (t.2.1 : Rat), t.2.2, rfl, num_int _ (t.2.1 : Int), hm, nb_nat (by omega), bt t tmm, True.intro, fun v5 H5 s5 hv5 => ?_⟩
          refine ⟨_, rfl, _, rfl, _, rfl, _, _, rfl, rfl, s2, fun p np => ?_⟩
          have ek : ((t.2.1 : Int) - 1) = ((t.2.1 - 1 : Nat) : Int) := by omega
          have s6 : Same H5 (upd H5 p (.tup [.int (t.1 : Int), .int ((t.2.1 : Int) - 1)])) := same_upd np
          have hp : (upd H5 p (.tup [.int (t.1 : Int), .int ((t.2.1 : Int) - 1)])) p = some (.tup ((k2 (t.1, t.2.1 - 1)).map kV)) := by rw [upd_same, ek]; rfl
          dsimp only at s6 hp ⊢
          generalize upd H5 p (.tup [.int (t.1 : Int), .int ((t.2.1 : Int) - 1)]) = H6 at s6 hp
          have s56 := s5.trans s6
          have hDy6 := s56 _ _ hDy
          refine ⟨Dy, _, rfl, DPut.t hDy6 hp (l28' (by have := dvy.len; omega)), ?_⟩
          have kk6 : Kp Dy H6 (upd H6 Dy (.dT (putK ky (k2 (t.1, t.2.1 - 1)) v5))) := Kp.upd _
          have dvy : DV (upd H6 Dy (.dT (putK ky (k2 (t.1, t.2.1 - 1)) v5))) (putK ky (k2 (t.1, t.2.1 - 1)) v5) (co (dyl ((terms f).take (i + 1)))) := by
            rw [sny, ← setC_new (dyl_new (nodup_take (terms_nd f) et) cy)]
            exact ((dvy.same s56).put (i := t.1) (j := t.2.1 - 1) (by have := (terms_of tmm).1; omega) (hv5.same s6)).kp (num_notD hDy6) kk6
          have dvx := (dvx.same s56).kp (num_notD hDy6) kk6
          have hDx := kk6 _ _ dne (s56 _ _ hDx)
          have hDy : (upd H6 Dy (.dT (putK ky (k2 (t.1, t.2.1 - 1)) v5))) Dy = some (.dT (putK ky (k2 (t.1, t.2.1 - 1)) v5)) := upd_same
          have hm := (hm.same s56).kp (num_notD hDy6) kk6
          have s' := sov (s'.trans s56) (o := .dT (putK ky (k2 (t.1, t.2.1 - 1)) v5)) nDyH
          generalize upd H6 Dy (.dT (putK ky (k2 (t.1, t.2.1 - 1)) v5)) = H7 at kk6 dvy dvx hDx hDy hm s'
          clear kk6 hDy6 hp s6 s5 s56 hv5
          exact ⟨_, _, _, _, _, rfl, s', hDx, hDy, dvx, dvy⟩
      · by_cases cy : t.2.1 = 0
        · refine ⟨_, rfl, _, _, rfl, rfl, _, rfl, ?_⟩
          rw [decide_eq_true (show (0 : Int) < (t.1 : Int) by omega)]
          refine iteT ?_
          rw [if_neg cx] at snx
          refine ⟨_, rfl, _, rfl, _, m, (t.1 : Rat), t.2.2, rfl, num_int _ (t.1 : Int), hm, nb_nat (by omega), bt t tmm, True.intro, fun v5 H5 s5 hv5 => ?_⟩
          refine ⟨_, rfl, _, rfl, _, _, rfl, rfl, _, rfl, s2, fun p np => ?_⟩
          have ek : ((t.1 : Int) - 1) = ((t.1 - 1 : Nat) : Int) := by omega
          have s6 : Same H5 (upd H5 p (.tup [.int ((t.1 : Int) - 1), .int (t.2.1 : Int)])) := same_upd np
          have hp : (upd H5 p (.tup [.int ((t.1 : Int) - 1), .int (t.2.1 : Int)])) p = some (.tup ((k2 (t.1 - 1, t.2.1)).map kV)) := by rw [upd_same, ek]; rfl
          dsimp only at s6 hp ⊢
          generalize upd H5 p (.tup [.int ((t.1 : Int) - 1), .int (t.2.1 : Int)]) = H6 at s6 hp
          have s56 := s5.trans s6
          have hDx6 := s56 _ _ hDx
          refine ⟨Dx, _, rfl, DPut.t hDx6 hp (l28' (by have := dvx.len; omega)), ?_⟩
          have kk6 : Kp Dx H6 (upd H6 Dx (.dT (putK kx (k2 (t.1 - 1, t.2.1)) v5))) := Kp.upd _
          have dvx : DV (upd H6 Dx (.dT (putK kx (k2 (t.1 - 1, t.2.1)) v5))) (putK kx (k2 (t.1 - 1, t.2.1)) v5) (co (dxl ((terms f).take (i + 1)))) := by
            rw [snx, ← setC_new (dxl_new (nodup_take (terms_nd f) et) cx)]
            exact ((dvx.same s56).put (i := t.1 - 1) (j := t.2.1) (by have := (terms_of tmm).1; omega) (hv5.same s6)).kp (num_notD hDx6) kk6
          have dvy := (dvy.same s56).kp (num_notD hDx6) kk6
          have hDy := kk6 _ _ dne.symm (s56 _ _ hDy)
          have hDx : (upd H6 Dx (.dT (putK kx (k2 (t.1 - 1, t.2.1)) v5))) Dx = some (.dT (putK kx (k2 (t.1 - 1, t.2.1)) v5)) := upd_same
          have hm := (hm.same s56).kp (num_notD hDx6) kk6
          have s' := sov (s'.trans s56) (o := .dT (putK kx (k2 (t.1 - 1, t.2.1)) v5)) nDx
          generalize upd H6 Dx (.dT (putK kx (k2 (t.1 - 1, t.2.1)) v5)) = H7 at kk6 dvx dvy hDy hDx hm s'
          clear kk6 hDx6 hp s6 s5 s56 hv5
          refine ⟨_, rfl, _, _, rfl, rfl, _, rfl, ?_⟩
          rw [decide_eq_false (show ¬ (0 : Int) < (t.2.1 : Int) by omega)]
          refine iteF ?_
          dsimp only [tNext]
          rw [if_pos cy, List.append_nil] at sny
          rw [← sny] at dvy
          exact ⟨_, _, _, _, _, rfl, s', hDx, hDy, dvx, dvy⟩
        · refine ⟨_, rfl, _, _, rfl, rfl, _, rfl, ?_⟩
          rw [decide_eq_true (show (0 : Int) < (t.1 : Int) by omega)]
          refine iteT ?_
          rw [if_neg cx] at snx
          refine ⟨_, rfl, _, rfl, _, m, (t.1 : Rat), t.2.2, rfl, num_int _ (t.1 : Int), hm, nb_nat (by omega), bt t tmm, True.intro, fun v5 H5 s5 hv5 => ?_⟩
          refine ⟨_, rfl, _, rfl, _, _, rfl, rfl, _, rfl, s2, fun p np => ?_⟩
          have ek : ((t.1 : Int) - 1) = ((t.1 - 1 : Nat) : Int) := by omega
          have s6 : Same H5 (upd H5 p (.tup [.int ((t.1 : Int) - 1), .int (t.2.1 : Int)])) := same_upd np
          have hp : (upd H5 p (.tup [.int ((t.1 : Int) - 1), .int (t.2.1 : Int)])) p = some (.tup ((k2 (t.1 - 1, t.2.1)).map kV)) := by rw [upd_same, ek]; rfl
          dsimp only at s6 hp ⊢
          generalize upd H5 p (.tup [.int ((t.1 : Int) - 1), .int (t.2.1 : Int)]) = H6 at s6 hp
          have s56 := s5.trans s6
          have hDx6 := s56 _ _ hDx
          refine ⟨Dx, _, rfl, DPut.t hDx6 hp (l28' (by have := dvx.len; omega)), ?_⟩
          have kk6 : Kp Dx H6 (upd H6 Dx (.dT (putK kx (k2 (t.1 - 1, t.2.1)) v5))) := Kp.upd _
          have dvx : DV (upd H6 Dx (.dT (putK kx (k2 (t.1 - 1, t.2.1)) v5))) (putK kx (k2 (t.1 - 1, t.2.1)) v5) (co (dxl ((terms f).take (i + 1)))) := by
            rw [snx, ← setC_new (dxl_new (nodup_take (terms_nd f) et) cx)]
            exact ((dvx.same s56).put (i := t.1 - 1) (j := t.2.1) (by have := (terms_of tmm).1; omega) (hv5.same s6)).kp (num_notD hDx6) kk6
          have dvy := (dvy.same s56).kp (num_notD hDx6) kk6
          have hDy := kk6 _ _ dne.symm (s56 _ _ hDy)
          have hDx : (upd H6 Dx (.dT (putK kx (k2 (t.1 - 1, t.2.1)) v5))) Dx = some (.dT (putK kx (k2 (t.1 - 1, t.2.1)) v5)) := upd_same
          have hm := (hm.same s56).kp (num_notD hDx6) kk6
          have s' := sov (s'.trans s56) (o := .dT (putK kx (k2 (t.1 - 1, t.2.1)) v5)) nDx
          generalize upd H6 Dx (.dT (putK kx (k2 (t.1 - 1, t.2.1)) v5)) = H7 at kk6 dvx dvy hDy hDx hm s'
          clear kk6 hDx6 hp s6 s5 s56 hv5
          refine ⟨_, rfl, _, _, rfl, rfl, _, rfl, ?_⟩
          rw [decide_eq_true (show (0 : Int) < (t.2.1 : Int) by omega)]
          refine iteT ?_
          rw [if_neg cy] at sny
          refine ⟨_, rfl, _, rfl, _, m, (t.2.1 : Rat), t.2.2, rfl, num_int _ (t.2.1 : Int), hm, nb_nat (by omega), bt t tmm, True.intro, fun v5 H5 s5 hv5 => ?_⟩
          refine ⟨_, rfl, _, rfl, _, rfl, _, _, rfl, rfl, s2, fun p np => ?_⟩
          have ek : ((t.2.1 : Int) - 1) = ((t.2.1 - 1 : Nat) : Int) := by omega
          have s6 : Same H5 (upd H5 p (.tup [.int (t.1 : Int), .int ((t.2.1 : Int) - 1)])) := same_upd np
          have hp : (upd H5 p (.tup [.int (t.1 : Int), .int ((t.2.1 : Int) - 1)])) p = some (.tup ((k2 (t.1, t.2.1 - 1)).map kV)) := by rw [upd_same, ek]; rfl
          dsimp only at s6 hp ⊢
          generalize upd H5 p (.tup [.int (t.1 : Int), .int ((t.2.1 : Int) - 1)]) = H6 at s6 hp
          have s56 := s5.trans s6
          have hDy6 := s56 _ _ hDy
          refine ⟨Dy, _, rfl, DPut.t hDy6 hp (l28' (by have := dvy.len; omega)), ?_⟩
          have kk6 : Kp Dy H6 (upd H6 Dy (.dT (putK ky (k2 (t.1, t.2.1 - 1)) v5))) := Kp.upd _
          have dvy : DV (upd H6 Dy (.dT (putK ky (k2 (t.1, t.2.1 - 1)) v5))) (putK ky (k2 (t.1, t.2.1 - 1)) v5) (co (dyl ((terms f).take (i + 1)))) := by
            rw [sny, ← setC_new (dyl_new (nodup_take (terms_nd f) et) cy)]
            exact ((dvy.same s56).put (i := t.1) (j := t.2.1 - 1) (by have := (terms_of tmm).1; omega) (hv5.same s6)).kp (num_notD hDy6) kk6
          have dvx := (dvx.same s56).kp (num_notD hDy6) kk6
          have hDx := kk6 _ _ dne (s56 _ _ hDx)
          have hDy : (upd H6 Dy (.dT (putK ky (k2 (t.1, t.2.1 - 1)) v5))) Dy = some (.dT (putK ky (k2 (t.1, t.2.1 - 1)) v5)) := upd_same
          have hm := (hm.same s56).kp (num_notD hDy6) kk6
          have s' := sov (s'.trans s56) (o := .dT (putK ky (k2 (t.1, t.2.1 - 1)) v5)) nDyH
          generalize upd H6 Dy (.dT (putK ky (k2 (t.1, t.2.1 - 1)) v5)) = H7 at kk6 dvy dvx hDx hDy hm s'
          clear kk6 hDy6 hp s6 s5 s56 hv5
          exact ⟨_, _, _, _, _, rfl, s', hDx, hDy, dvx, dvy⟩
    · obtain ⟨o4, o5, o6, kx, ky, rfl, s', hDx, hDy, dvx, dvy⟩ := p
      rw [Paired.length a3, List.take_length] at dvx dvy
      rw [co_dxl, co_terms_eq lw] at dvx
      rw [co_dyl, co_terms_eq lw] at dvy
      have hv1 := hv.same s'
      -- both ways shown
      have zx := SC.dx zf lw
      have zy := SC.dy zf lw
      have bx : ∀ t ∈ terms (dx f), NB 1900 t.2.2 := SC.nb zx (by decide +kernel) (by decide +kernel)
      have by_ : ∀ t ∈ terms (dy f), NB 1900 t.2.2 := SC.nb zy (by decide +kernel) (by decide +kernel)
      have rep := two_rep bx by_
      refine ⟨_, rfl, _, _, f, dx f, rfl, hv1, .inl ⟨rfl, rfl⟩, bt, fun w1 H2 s2' hw1 => ?_⟩
      obtain ⟨x1, rfl, d1, q1, us1, b1, b2, b3, _⟩ := hw1
      refine ⟨x1, C, d1, _, _, rfl, b1, PC.cls, PC.nt, rfl, ?_⟩
      refine ⟨_, rfl, rfl, _, _, f, dy f, rfl, hv1.same s2', .inr ⟨rfl, rfl⟩, bt, fun w2 H3 s3' hw2 => ?_⟩
      obtain ⟨x2, rfl, d2, q2, us2, c1, c2, c3, _⟩ := hw2
      refine ⟨x2, C, d2, _, _, rfl, c1, PC.cls, PC.nt, rfl, l7 (show 2 ≤ 3 by decide), fun L nL => ?_⟩
      have s4 : Same H3 (upd H3 L (.lst [.ref q1, .ref q2])) := same_upd nL
      have hL : (upd H3 L (.lst [.ref q1, .ref q2])) L = some (.lst [.ref q1, .ref q2]) := upd_same
      generalize upd H3 L (.lst [.ref q1, .ref q2]) = H4 at s4 hL
      have s34 := s3'.trans s4
      refine ⟨_, _, rfl, .inr ⟨L, rfl⟩, .lst (lstAt hL) (.cons (TermsV.dp (s34 _ _ b2) (b3.same s34)) (.cons (TermsV.dp (s4 _ _ c2) (c3.same s4)) .nil)), rep.sh, rep.nd, rep.dp, rep.ln, ?_⟩
      have s24 := s2'.trans s34
      refine ⟨_, rfl, Dx, kx, _, rfl, s24 _ _ hDx, dvx.same s24, fun H5 r1 vs1 s5 e1 e2 => ?_⟩
      refine ⟨_, rfl, Dy, ky, _, rfl, s5 _ _ (s24 _ _ hDy), (dvy.same s24).same s5, fun H6 r2 vs2 s6 e3 e4 => ⟨l7 (show 2 ≤ 3 by decide), fun L2' nL2 => ?_⟩⟩
      have s7 : Same H6 (upd H6 L2' (.lst [.ref r1, .ref r2])) := same_upd nL2
      have hL2 : (upd H6 L2' (.lst [.ref r1, .ref r2])) L2' = some (.lst [.ref r1, .ref r2]) := upd_same
      generalize upd H6 L2' (.lst [.ref r1, .ref r2]) = H7 at s7 hL2
      have s67 := s6.trans s7
      refine ⟨_, _, rfl, .inr ⟨L2', rfl⟩, .lst (lstAt hL2) (.cons (TermsV.dp (s67 _ _ e1) (e2.same s67)) (.cons (TermsV.dp (s7 _ _ e3) (e4.same s7)) .nil)), rep.sh, rep.nd, rep.dp, rep.ln, ?_⟩
      refine ⟨rfl, _, rfl, ?_⟩
      rw [decide_eq_true rfl]
      refine iteF ?_
      dsimp only [tNext]
      have s17 := s24.trans (s5.trans s67)
      have sH7 := s'.trans s17
      have hv7 := hv.same sH7
      have hl7 := hl.same sH7
      have dn6 : dgn f ≤ 6 := dgn_le dgf
      refine ⟨_, rfl, _, rfl, x, C, dx', _, _, rfl, sH7 _ _ a1, PC.cls, PC.nd, rfl, _, _, rfl, rfl, a, t, 6 - dgn f, 3, ?_, hl7, by omega, by omega, by decide, fun H8 w3 g k8 l8 hg ⟨dgg, zg⟩ => ?_⟩
      · show [V.ref a, V.int ((6 : Int) - ((dgn f : Nat) : Int)), V.int 3] = _
        rw [show ((6 : Int) - ((dgn f : Nat) : Int)) = ((6 - dgn f : Nat) : Int) by omega]
        rfl
      · refine ⟨_, rfl, sz (by decide), fun L3 nL3 => ?_⟩
        have s9 : Same H8 (upd H8 L3 (.lst [.str "x", .str "y"])) := same_upd nL3
        have hL3 : (upd H8 L3 (.lst [.str "x", .str "y"])) L3 = some (.lst [.str "x", .str "y"]) := upd_same
        have la : L3 ≠ a := fun z => by
          obtain ⟨o, ho⟩ := l8.is
          rw [z, ho] at nL3
          cases nL3
        generalize upd H8 L3 (.lst [.str "x", .str "y"]) = H9 at s9 hL3
        have l9 := l8.same s9
        refine ⟨a, _, L3, _, rfl, l9, by omega, la, hL3, (show 1 ≤ 2 by decide), (show 2 ≤ 1000 by decide), fun H10 k u k10 l10 eu => ?_⟩
        have kk : Kp a H H10 := ((Kp.of sH7).trans k8).trans ((Kp.of s9).trans k10)
        have hf10 : PolyV C H10 (.ref x) f := ((hv7.kpl hl7 k8).same s9).kpl l9 k10
        have hg10 : PolyV C H10 w3 g := (hg.same s9).kpl l9 k10
        have slp : ∃ z s, u = .str z ∧ Slp z s := by
          rcases two_get eu with ⟨_, rfl⟩ | ⟨_, rfl⟩
          · exact ⟨_, _, rfl, slp_x⟩
          · exact ⟨_, _, rfl, slp_y⟩
        obtain ⟨z, s, rfl, S⟩ := slp
        have lwg : Lw g := dgg.lw (by omega)
        have df : Dg (dgn f) f := dg_dgn lw
        have zsf := S.sc _ _ _ zf lw
        have zsg := S.sc _ _ _ zg lwg
        have d1 := dgn_le (S.dg _ _ df)
        have d2 := dgn_le dgg
        have d3 := dgn_le (S.dg _ _ dgg)
        have btg : ∀ t ∈ terms g, NB 4000 t.2.2 := SC.nb zg (by decide +kernel) (by decide +kernel)
        refine ⟨_, _, rfl, ?_⟩
        refine ⟨_, rfl, _, rfl, _, z, f, s f, rfl, hf10, S.is f, bt, fun u1 H11 s11 hu1 => ?_⟩
        refine ⟨_, rfl, u1, w3, s f, g, 42, _, 42, _, rfl, hu1, hg10.same s11, zsf, zg, ⟨by decide +kernel, by decide +kernel⟩, ⟨by decide +kernel, by decide +kernel⟩, ⟨by decide +kernel, by decide +kernel⟩, by omega, fun u2 H12 s12 hu2 => ?_⟩
        have s1012 := s11.trans s12
        refine ⟨_, rfl, _, rfl, _, rfl, w3, z, g, s g, rfl, hg10.same s1012, S.is g, btg, fun u3 H13 s13 hu3 => ?_⟩
        have s1013 := s1012.trans s13
        refine ⟨_, u3, f, s g, 42, _, 42, _, rfl, hf10.same s1013, hu3, zf, zsg, ⟨by decide +kernel, by decide +kernel⟩, ⟨by decide +kernel, by decide +kernel⟩, ⟨by decide +kernel, by decide +kernel⟩, by omega, fun u4 H14 s14 hu4 => ?_⟩
        refine ⟨u2, u4, _, _, _, _, _, rfl, hu2.same (s13.trans s14), hu4, zsf.mul zg, zf.mul zsg, ⟨by decide +kernel, by decide +kernel⟩, fun u5 H15 s15 hu5 => ?_⟩
        have s1015 := (s1013.trans s14).trans s15
        refine ⟨_, rfl, _, rfl, _, w3, f, g, 42, _, 42, _, rfl, hf10.same s1015, hg10.same s1015, zf, zg, ⟨by decide +kernel, by decide +kernel⟩, ⟨by decide +kernel, by decide +kernel⟩, ⟨by decide +kernel, by decide +kernel⟩, by omega, fun u6 H16 s16 hu6 => ?_⟩
        refine ⟨_, rfl, u6, z, Pk.mul f g, s (Pk.mul f g), rfl, hu6, S.is _, SC.nb (zf.mul zg) (by decide +kernel) (by decide +kernel), fun u7 H17 s17' hu7 => ?_⟩
        rw [S.ml _ _ _ _ df dgg (by omega)] at hu7
        refine ⟨_, rfl, hu7.both (hu5.same (s16.trans s17')), fun H18 s18 => ?_⟩
        have sF : Same H10 H18 := ((s1015.trans s16).trans s17').trans s18
        exact q H18 (kk.trans (Kp.of sF)) (l10.same sF)
end
end Kd

namespace Kd
open PySem PySem.Spec PyProof.Rows L2 Pk
/-! ### sizes of the law -/
def BPt (x y : Rat) : Prop := IB 60 (2 ^ 71) x ∧ IB 60 (2 ^ 71) y
theorem ev_ib {D M E m : Nat} {f : Co} {x y : Rat} (h : SC D M f) (le : E ≤ m) (hx : IB E m x) (hy : IB E m y) : IB (D * E ^ 6) (M * m ^ 6) (ev f x y) := by
  rw [← evl_terms]
  exact h.sl.evl (low_terms f) le hx hy
theorem val_small {f : Co} {x y : Rat} (h : SC 42 (2 ^ 108) f) (b : BPt x y) : Val f x y := ⟨42, _, 60, _, h, b.1, b.2, by decide +kernel, ⟨by decide +kernel, by decide +kernel⟩, ⟨by decide +kernel, by decide +kernel⟩, ⟨by decide +kernel, by decide +kernel⟩⟩
theorem val_made {f : Co} {x y : Rat} (h : SC (42 * 42 ^ 6) (2 ^ 745) f) (b : BPt x y) : Val f x y := ⟨_, _, 60, _, h, b.1, b.2, by decide +kernel, ⟨by decide +kernel, by decide +kernel⟩, ⟨by decide +kernel, by decide +kernel⟩, ⟨by decide +kernel, by decide +kernel⟩⟩
theorem ib_small {f : Co} {x y : Rat} (h : SC 42 (2 ^ 108) f) (b : BPt x y) : IB (42 * 60 ^ 6) (2 ^ 108 * (2 ^ 71) ^ 6) (ev f x y) := ev_ib h (by decide +kernel) b.1 b.2
theorem ib_made {f : Co} {x y : Rat} (h : SC (42 * 42 ^ 6) (2 ^ 745) f) (b : BPt x y) : IB (42 * 42 ^ 6 * 60 ^ 6) (2 ^ 745 * (2 ^ 71) ^ 6) (ev f x y) := ev_ib h (by decide +kernel) b.1 b.2
theorem nb_made {f : Co} {x y : Rat} (h : SC (42 * 42 ^ 6) (2 ^ 745) f) (b : BPt x y) : NB 1900 (ev f x y) := (ib_made h b).nb (by decide +kernel) (by decide +kernel)
theorem val_deep {f : Co} {x y : Rat} (h : SC 42 (2 ^ 108) f) (hx : IB (42 * 60 ^ 6) (2 ^ 108 * (2 ^ 71) ^ 6) x) (hy : IB (42 * 60 ^ 6) (2 ^ 108 * (2 ^ 71) ^ 6) y) : Val f x y :=
  ⟨42, _, _, _, h, hx, hy, by decide +kernel, ⟨by decide +kernel, by decide +kernel⟩, ⟨by decide +kernel, by decide +kernel⟩, ⟨by decide +kernel, by decide +kernel⟩⟩
theorem Drawn.small {d : Nat} {f : Co} (h : Drawn d f) : SC 42 (2 ^ 108) f := h.2.mono (by decide +kernel)
theorem Drawn.slope {d : Nat} {f : Co} (h : Drawn d f) (le : d ≤ 6) {z : Str} {s : Co → Co} (S : Slp z s) : SC 42 (2 ^ 108) (s f) := (S.sc _ _ _ h.2 (h.1.lw le)).mono (by decide +kernel)
theorem put_ok {c e : Nat} {f g h : Co} (hf : Dg c f) (zf : SC 42 (2 ^ 108) f) (hg : Drawn e g) (hh : Drawn e h) (le : c * e ≤ 6) : Put f g h ∧ SC (42 * 42 ^ 6) (2 ^ 740) (put f g h) ∧ Dg 6 (put f g h) := by
  have ft := fit_of hf le
  refine ⟨⟨42, _, 42, _, e, e, zf, hg.2, hh.2, by decide +kernel, hg.1, hh.1, ft, ⟨by decide +kernel, by decide +kernel⟩, ⟨by decide +kernel, by decide +kernel⟩, ⟨by decide +kernel, by decide +kernel⟩⟩, ?_, put_dg hg.1 hh.1 ft⟩
  exact (SC.put zf hg.2 hh.2 (by decide +kernel)).mono (by decide +kernel)
/-- along the way -/
structure SlpW (z : Str) (s : Co → Co) : Prop where
  S : Slp z s
  way : ∀ (f g h : Co) (d e : Nat), Dg 6 f → Dg d g → Dg e h → Fit (terms f) d e → ∀ x y, ev (s (put f g h)) x y = ev (put (dx f) g h) x y * ev (s g) x y + ev (put (dy f) g h) x y * ev (s h) x y
theorem slpw_x : SlpW "x" dx := ⟨slp_x, fun _ _ _ _ _ hf hg hh ft x y => way_x hf hg hh ft x y⟩
theorem slpw_y : SlpW "y" dy := ⟨slp_y, fun _ _ _ _ _ hf hg hh ft x y => way_y hf hg hh ft x y⟩
def g10 : Co := co [(1, 0, 1)]
def g01 : Co := co [(0, 1, 1)]
theorem dg10 : Dg 1 g10 := co_dg fun t ht => by rw [List.mem_singleton.mp ht]; decide
theorem dg01 : Dg 1 g01 := co_dg fun t ht => by rw [List.mem_singleton.mp ht]; decide
theorem low1 {t : Pk.Tm} (h : t.1 + t.2.1 ≤ 6) : Low [t] := fun u hu => by rw [List.mem_singleton.mp hu]; exact h
theorem ev10 (x y : Rat) : ev g10 x y = x := by
  unfold g10
  rw [ev_co (low1 (by decide)), evl_cons]
  show (1 : Rat) * (x ^ 1 * y ^ 0) + 0 = x
  grind
theorem ev01 (x y : Rat) : ev g01 x y = y := by
  unfold g01
  rw [ev_co (low1 (by decide)), evl_cons]
  show (1 : Rat) * (x ^ 0 * y ^ 1) + 0 = y
  grind
theorem sl1 (i j : Nat) : SL 1 1 [(i, j, 1)] := ⟨by decide, fun t ht => by rw [List.mem_singleton.mp ht]; exact It.one 1, by
  rw [n1_cons]
  show (ra 1 + n1 []) * ((1 : Nat) : Rat) ≤ ((1 : Nat) : Rat)
  rw [show n1 [] = 0 from rfl, ra_of_nn (by decide)]
  decide +kernel⟩
theorem put_unit {f : Co} (h : Drawn 6 f) : Put f g10 g01 ∧ put f g10 g01 = f := by
  refine ⟨⟨42, _, 1, 1, 1, 1, h.2, (sl1 1 0).sc, (sl1 0 1).sc, by decide, dg10, dg01, fit_of h.1 (by decide), ⟨by decide +kernel, by decide +kernel⟩, ⟨by decide +kernel, by decide +kernel⟩, ⟨by decide +kernel, by decide +kernel⟩⟩, ?_⟩
  exact put_same h.1 dg10 dg01 ev10 ev01
theorem if_both {tt : TT} {tA tB : TE} {σ : L2.St} {H : Hp} {Q : VK} (Ψ : Hp → Prop) (Φ : V → Hp → Prop) (h : ∀ R : Bool → Hp → Prop, (∀ b H1, Ψ H1 → R b H1) → tt σ H R) (hA : ∀ H1 Q', Ψ H1 → Out H1 Q' Φ → tA σ H1 Q')
    (hB : ∀ H1 Q', Ψ H1 → Out H1 Q' Φ → tB σ H1 Q') (o : ∀ H1, Ψ H1 → Out H1 Q Φ) : tIf tt tA tB σ H Q :=
  h _ fun b H1 p => by
    cases b with
    | true => exact iteT (hA H1 Q p (o H1 p))
    | false => exact iteF (hB H1 Q p (o H1 p))
theorem mk_unit {H : Hp} {i j : Nat} {p : Addr} (hp : H p = some (.tup [.int (i : Int), .int (j : Int), .int 1])) : TermsV H [.ref p] [(i, j, 1)] := .cons ⟨p, _, rfl, hp, num_int H 1⟩ .nil
theorem unit_ok {i j : Nat} (h : i + j ≤ 6) : TsOk [(i, j, (1 : Rat))] := ⟨by simp, fun t ht => by rw [List.mem_singleton.mp ht]; exact h, fun t ht => by rw [List.mem_singleton.mp ht]; show (1 : Rat) ≠ 0; decide⟩
theorem make_of {C : Addr} {t : TA} {σ : L2.St} {H : Hp} {Q : VK} {E : XK} {ts : List Pk.Tm} (ht : ∀ R : List V → Hp → Prop, (∀ q us H1, Same H H1 → SeqOr H1 q us → TermsV H1 us ts → R [.ref q] H1) → t σ H R) (tok : TsOk ts) (o : Out H Q fun v H' => PolyV C H' v (co ts)) : tMake C (spInit C) [] E t σ H Q :=
  ht _ fun q us H1 s hq tv => mk_go hq tv tok (o.go s)
theorem LatheV.fresh {H : Hp} {a L : Addr} {t : Nat} (l : LatheV H a t) (n : H L = none) : L ≠ a := fun z => by
  obtain ⟨o, ho⟩ := l.is
  rw [z, ho] at n
  cases n
theorem NumV.kind {H : Hp} {v : V} {r : Rat} (h : NumV H v r) : (∃ i, v = .int i) ∨ ∃ a, v = .ref a := by
  rcases h with ⟨_, e⟩ | ⟨_, p, e, _⟩
  · exact .inl ⟨_, e⟩
  · exact .inr ⟨p, e⟩
theorem deg_pick {k : Nat} {x : V} (e : [V.int 1, .int 2, .int 3, .int 6][k]? = some x) : ∃ c d : Nat, x = .int (c : Int) ∧ 1 ≤ c ∧ c ≤ 6 ∧ d ≤ 6 ∧ c * d ≤ 6 ∧ (6 : Int) / (c : Int) = (d : Int) := by
  rcases k with _ | _ | _ | _ | k
  · exact ⟨1, 6, (Option.some.inj e).symm, by decide, by decide, by decide, by decide, by decide⟩
  · exact ⟨2, 3, (Option.some.inj e).symm, by decide, by decide, by decide, by decide, by decide⟩
  · exact ⟨3, 2, (Option.some.inj e).symm, by decide, by decide, by decide, by decide, by decide⟩
  · exact ⟨6, 1, (Option.some.inj e).symm, by decide, by decide, by decide, by decide, by decide⟩
  · simp at e
theorem num_pick {k : Nat} {x : V} (e : [V.int 2, .int 1, .int 3, .int 0][k]? = some x) : ∃ n : Nat, x = .int (n : Int) ∧ n ≤ 3 := by
  rcases k with _ | _ | _ | _ | k
  · exact ⟨2, (Option.some.inj e).symm, by decide⟩
  · exact ⟨1, (Option.some.inj e).symm, by decide⟩
  · exact ⟨3, (Option.some.inj e).symm, by decide⟩
  · exact ⟨0, (Option.some.inj e).symm, by decide⟩
  · simp at e
section
variable {P : Program} {w : World} {K : PySem.W.Frag} {mg : Str → Option Value} {base : Heap} {C : Addr}
def spPutRight : Sp := fun vs H Q _ => ∃ a t, vs = [.ref a] ∧ LatheV H a t ∧ t ≤ 7000 ∧ ∀ H', Kp a H H' → LatheV H' a (t + 80) → Q (.bl true) H'
theorem ok_put_right (R : Row K mg "_law_put_right" (top 69) ["_law_lathe_here"]) (PC : PolyC P w K mg base C) (PE : PolyE P w K mg base C) (gp : mg "repr" = none) (gr : mg "range" = none)
    (OSp : Okk P w K mg base "_law_spin" 1 ["_law_lathe_here", "_law_many"] spSpin) (OO : Okk P w K mg base "_law_one_of" 2 ["_law_lathe_here", "_law_some_here"] spOneOf) (OP : Okk P w K mg base "_law_poly" 7 ["_law_lathe_here", "_law_degree", "_law_many"] (spLawPoly C))
    (OI : OkW P w K mg base "put_in" 11 ["poly", "one", "other"] (spPutInOf C)) (OPt : Okk P w K mg base "_law_point" 4 ["_law_lathe_here"] spPoint) (OW : Okk P w K mg base "_law_worth" 4 ["_law_found", "_law_point_here"] spWorth) (OD : Okk P w K mg base "_law_dict" 1 ["_law_poly_here"] (spLawDict C))
    (OS : OkW P w K mg base "slope" 8 ["poly", "unknown"] (spSlope C)) (OV : Okk P w K mg base "value" 6 ["poly", "point"] (spValue C)) (OT : Okk P w K mg base "_law_times" 3 ["_law_one", "_law_other"] spMul) (OPl : Okk P w K mg base "_law_plus" 3 ["_law_one", "_law_other"] spAdd) :
    Okg P w K mg base "_law_put_right" 12 ["_law_lathe_here"] spPutRight := by
  obtain ⟨fE, fdE, FE, he, hfe, bE⟩ := PE.eqf
  obtain ⟨fI, fdI, M, FI, bI⟩ := PC.make
  refine okg R sc_law_put_right (fun vs H Q E h => ?_) (fun f cdv A outer s H vs Q E gd hr h => ?_)
  · obtain ⟨a, t, rfl, _⟩ := h
    rfl
  · obtain ⟨a, t, rfl, hl, t4, q⟩ := h
    have nd := sc_law_put_right.nd
    have worth := fun (i j : Nat) => i
    refine ⟨_, pss_cons (ps_set (i := 1) nd rfl (Or.inl rfl) (pe_cl OO hr (pa_cons (pv 0) (pa_cons (pe_lst (pa_cons pe_int (pa_cons pe_int (pa_cons pe_int (pa_cons pe_int pa_nil))))) pa_nil))))
      (pss_cons (ps_par (i := 2) (j := 3) (by rfl) nd rfl rfl (by decide) rfl rfl (pa_cons (pe_cl OP hr (pa_cons (pv 0) (pa_cons (pv 1) (pa_cons pe_int pa_nil)))) (pa_cons (pe_op op_fdiv pe_int (pv 1)) pa_nil)) (by rfl))
      (pss_cons (ps_par (i := 4) (j := 5) (by rfl) nd rfl rfl (by decide) rfl rfl (pa_cons (pe_cl OP hr (pa_cons (pv 0) (pa_cons (pv 3) (pa_cons (pe_cl OO hr (pa_cons (pv 0) (pa_cons (pe_lst (pa_cons pe_int (pa_cons pe_int (pa_cons pe_int (pa_cons pe_int pa_nil))))) pa_nil))) pa_nil)))) (pa_cons (pe_cl OP hr (pa_cons (pv 0) (pa_cons (pv 3) (pa_cons pe_int pa_nil)))) pa_nil)) (by rfl))
      (pss_cons (ps_set (i := 6) nd rfl (Or.inl rfl) (pe_ifExp (pt_cmpR op_eq (pe_cl OSp hr (pa_cons (pv 0) (pa_cons pe_int pa_nil))) pe_int (nomark _)) (pe_cl OI.ok hr (pa_cons (pv 2) (pa_cons (pv 4) (pa_cons (pv 5) pa_nil)))) (pe_clw OI hr (pk_cons (pv 5) (pk_cons (pv 4) (pk_cons (pv 2) pk_nil))))))
      (pss_cons (ps_for PassesOwn.never rfl (pi_range1 (by rfl) gr (pa_cons pe_int pa_nil)) (pg_name (i := 7) nd rfl (Or.inl rfl))
        (pss_cons (ps_set (i := 8) nd rfl (Or.inl rfl) (pe_cl OPt hr (pa_cons (pv 0) pa_nil)))
        (pss_cons (ps_set (i := 9) nd rfl (Or.inl rfl) (pe_tup (pa_cons (pe_cl OW hr (pa_cons (pe_cl OD hr (pa_cons (pv 4) pa_nil)) (pa_cons (pv 8) pa_nil))) (pa_cons (pe_cl OW hr (pa_cons (pe_cl OD hr (pa_cons (pv 5) pa_nil)) (pa_cons (pv 8) pa_nil))) pa_nil))))
        (pss_one (ps_if (pt_cmpR op_ne (pe_callB (call_reprD gd hr.units) (by rfl) gp (by decide +kernel) (pa_cons (pe_cl OW hr (pa_cons (pe_cl OD hr (pa_cons (pv 6) pa_nil)) (pa_cons (pv 8) pa_nil))) pa_nil))
          (pe_callB (call_reprD gd hr.units) (by rfl) gp (by decide +kernel) (pa_cons (pe_cl OW hr (pa_cons (pe_cl OD hr (pa_cons (pv 2) pa_nil)) (pa_cons (pv 9) pa_nil))) pa_nil)) (nomark _)) (pss_one (ps_ret pe_bl)) pss_nil)))))
      (pss_cons (ps_par (i := 10) (j := 11) (by rfl) nd rfl rfl (by decide) rfl rfl (pa_cons (pe_cl OI.ok hr (pa_cons (pe_cl OS.ok hr (pa_cons (pv 2) (pa_cons pe_str pa_nil))) (pa_cons (pv 4) (pa_cons (pv 5) pa_nil)))) (pa_cons (pe_cl OI.ok hr (pa_cons (pe_cl OS.ok hr (pa_cons (pv 2) (pa_cons pe_str pa_nil))) (pa_cons (pv 4) (pa_cons (pv 5) pa_nil)))) pa_nil)) (by rfl))
      (pss_cons (ps_for PassesOwn.never rfl (pi_tup (pe_tup (pa_cons pe_str (pa_cons pe_str pa_nil)))) (pg_name (i := 12) nd rfl (Or.inl rfl))
        (pss_cons (ps_set (i := 8) nd rfl (Or.inl rfl) (pe_cl OPt hr (pa_cons (pv 0) pa_nil)))
        (pss_cons (ps_set (i := 13) nd rfl (Or.inl rfl) (pe_cl OPl hr (pa_cons (pe_cl OT hr (pa_cons (pe_cl OV hr (pa_cons (pv 10) (pa_cons (pv 8) pa_nil))) (pa_cons (pe_cl OV hr (pa_cons (pe_cl OS.ok hr (pa_cons (pv 4) (pa_cons (pv 12) pa_nil))) (pa_cons (pv 8) pa_nil))) pa_nil)))
          (pa_cons (pe_cl OT hr (pa_cons (pe_cl OV hr (pa_cons (pv 11) (pa_cons (pv 8) pa_nil))) (pa_cons (pe_cl OV hr (pa_cons (pe_cl OS.ok hr (pa_cons (pv 5) (pa_cons (pv 12) pa_nil))) (pa_cons (pv 8) pa_nil))) pa_nil))) pa_nil))))
        (pss_one (ps_if (pt_cmpR op_ne (pe_callB (call_reprD gd hr.units) (by rfl) gp (by decide +kernel) (pa_cons (pe_cl OV hr (pa_cons (pe_cl OS.ok hr (pa_cons (pv 6) (pa_cons (pv 12) pa_nil))) (pa_cons (pv 8) pa_nil))) pa_nil))
          (pe_callB (call_reprD gd hr.units) (by rfl) gp (by decide +kernel) (pa_cons (pv 13) pa_nil)) (nomark _)) (pss_one (ps_ret pe_bl)) pss_nil)))))
      (pss_one (ps_ret (pe_cmpR (op_eqG (rcG_ins FE he hfe bE pass0) (hr.mono (by decide))) (pe_cl OI.ok hr (pa_cons (pv 2) (pa_cons (pe_make M FI (hr.mono (by decide)) (by rfl) PC.gC bI .nil pass0 (pa_cons (pe_lst (pa_cons (pe_tup (pa_cons pe_int (pa_cons pe_int (pa_cons pe_int pa_nil)))) pa_nil)) pa_nil))
        (pa_cons (pe_make M FI (hr.mono (by decide)) (by rfl) PC.gC bI .nil pass0 (pa_cons (pe_lst (pa_cons (pe_tup (pa_cons pe_int (pa_cons pe_int (pa_cons pe_int pa_nil)))) pa_nil)) pa_nil)) pa_nil)))) (pv 2) (nomark _)))))))))), ?_⟩
    refine ⟨_, rfl, sz (by simp), fun L nL => ?_⟩
    have s1 : Same H (upd H L (.lst [.int 1, .int 2, .int 3, .int 6])) := same_upd nL
    refine ⟨a, t, L, _, rfl, hl.same s1, by omega, hl.fresh nL, upd_same, (show 1 ≤ 4 by decide), (show 4 ≤ 1000 by decide), fun H1 k x k1 l1 ex => ?_⟩
    have kp1 := (Kp.of s1).trans k1
    clear s1 nL k1
    obtain ⟨c, d, rfl, c1, c6, d6, cd, e6⟩ := deg_pick ex
    refine ⟨_, rfl, _, rfl, a, t + 1, c, 4, rfl, l1, by omega, c6, by decide, fun H2 v f k2' l2 hf df => ?_⟩
    refine ⟨_, rfl, 6, (c : Int), rfl, rfl, ⟨by omega, by omega⟩, _, _, rfl, ?_⟩
    dsimp only
    rw [e6]
    refine ⟨_, rfl, _, rfl, _, rfl, sz (by simp), fun L nL => ?_⟩
    have s3' : Same H2 (upd H2 L (.lst [.int 2, .int 1, .int 3, .int 0])) := same_upd nL
    refine ⟨a, _, L, _, rfl, l2.same s3', by omega, l2.fresh nL, upd_same, (show 1 ≤ 4 by decide), (show 4 ≤ 1000 by decide), fun H3 k3 x3 k3' l3 ex3 => ?_⟩
    have hf3 : PolyV C H3 v f := (hf.same s3').kpl (l2.same s3') k3'
    have kp3 := (kp1.trans k2').trans ((Kp.of s3').trans k3')
    clear s3' nL k3' k2' kp1
    obtain ⟨n, rfl, n3⟩ := num_pick ex3
    refine ⟨a, _, d, n, rfl, l3, by omega, d6, by omega, fun H4 u g k4 l4 hg dg => ?_⟩
    refine ⟨_, rfl, _, rfl, a, _, d, 2, rfl, l4, by omega, d6, by decide, fun H5 w' h k5 l5 hh dh => ⟨_, _, rfl, ?_⟩⟩
    have hf5 := (hf3.kpl l3 k4).kpl l4 k5
    have hg5 := hg.kpl l4 k5
    have kp5 := (kp3.trans k4).trans k5
    clear hf3 hg kp3 k4 k5
    obtain ⟨pu, zF, dF⟩ := put_ok df.1 df.small dg dh cd
    have df6 : Drawn 6 f := ⟨df.1.mono c6, df.2⟩
    have ft := fit_of df.1 cd
    generalize eF : put f g h = F at zF dF
    dsimp only [tSeq, tAsg]
    refine if_both (fun H6 => Kp a H5 H6 ∧ LatheV H6 a (t + 1 + 3 * 4 + 1 + 3 * n + 3 * 2 + 1)) (fun v H' => PolyV C H' v F) (fun R go => ?_) (fun H6 Q' ⟨k6, l6⟩ o => ?_) (fun H6 Q' ⟨k6, l6⟩ o => ?_) (fun H6 ⟨k6, l6⟩ m7 H7 s7 hF => ?_)
    · exact ⟨_, rfl, a, _, 2, rfl, l5, by omega, by decide, by decide, fun H' r k l r0 r1 => ⟨rfl, _, rfl, go _ _ ⟨k, l⟩⟩⟩
    · exact ⟨_, rfl, _, rfl, _, rfl, v, u, w', f, g, h, rfl, hf5.kpl l5 k6, hg5.kpl l5 k6, hh.kpl l5 k6, pu, by rw [eF]; exact o⟩
    · exact ⟨_, rfl, _, rfl, _, rfl, rfl, v, u, w', f, g, h, rfl, hf5.kpl l5 k6, hg5.kpl l5 k6, hh.kpl l5 k6, pu, by rw [eF]; exact o⟩
    have l7 := (l6.same s7).mono (t' := t + 40) (by omega)
    have k57 := k6.trans (Kp.of (D := a) s7)
    have hf7 := hf5.kpl l5 k57
    have hg7 := hg5.kpl l5 k57
    have hh7 := hh.kpl l5 k57
    have kp7 := kp5.trans k57
    clear hf5 hg5 hh kp5 k57 k6 s7 l6 l5 l4 l3 l2 l1
    dsimp only [gName, tNext]
    refine ⟨3, rfl, by decide, by decide, ?_⟩
    refine for_range (lo := 0) (n := 3) (fun k σ H' => ∃ o7 o8 o9, σ = [some (.ref a), some (.int (c : Int)), some v, some (.int (d : Int)), some u, some w', some m7, o7, o8, o9, none, none, none, none] ∧ Kp a H7 H' ∧ LatheV H' a (t + 40 + 8 * k)) ⟨_, _, _, rfl, Kp.of (Same.refl H7), l7⟩ (fun k σ H8 lt p => ?_) (fun σ H8 p => ?_)
    · obtain ⟨o7, o8, o9, rfl, k8, l8⟩ := p
      refine ⟨_, rfl, a, _, rfl, l8, by omega, fun H9 pt x y k9 l9 hp bx by_ => ?_⟩
      have kk := k8.trans k9
      have hf9 := hf7.kpl l7 kk
      have hg9 := hg7.kpl l7 kk
      have hh9 := hh7.kpl l7 kk
      have hF9 := hF.kpl l7 kk
      have bp : BPt x y := ⟨bx, by_⟩
      refine ⟨_, rfl, u, g, rfl, hg9, fun H10 D1 s10 e1 => ⟨_, rfl, D1, pt, g, x, y, rfl, e1, hp.same s10, val_small dg.small bp, fun r1 H11 s11 hr1 => ?_⟩⟩
      have s911 := s10.trans s11
      refine ⟨_, rfl, w', h, rfl, hh9.same s911, fun H12 D2 s12 e2 => ⟨_, rfl, D2, pt, h, x, y, rfl, e2, hp.same (s911.trans s12), val_small dh.small bp, fun r2 H13 s13 hr2 => ⟨s2, fun pp np => ?_⟩⟩⟩
      have s14 : Same H13 (upd H13 pp (.tup [r1, r2])) := same_upd np
      have hpp : (upd H13 pp (.tup [r1, r2])) pp = some (.tup [r1, r2]) := upd_same
      dsimp only at s14 hpp ⊢
      generalize upd H13 pp (.tup [r1, r2]) = H14 at s14 hpp
      have s914 := (s911.trans (s12.trans s13)).trans s14
      have hpv : PtV H14 (.ref pp) (ev g x y) (ev h x y) := ⟨pp, r1, r2, rfl, hpp, (hr1.same (s12.trans s13)).same s14, hr2.same s14⟩
      have zF2 : SC (42 * 42 ^ 6) (2 ^ 745) F := zF.mono (by decide +kernel)
      have rep := numD_rep (nb_made zF2 bp)
      have ee : ev f (ev g x y) (ev h x y) = ev F x y := by rw [← eF, ev_put dg.1 dh.1 ft]
      refine ⟨_, rfl, m7, F, rfl, hF9.same s914, fun H15 D3 s15 e3 => ⟨_, rfl, D3, pt, F, x, y, rfl, e3, hp.same (s914.trans s15), val_made zF2 bp, fun r3 H16 s16 hr3 => ?_⟩⟩
      have s1416 := s15.trans s16
      have s916 := s914.trans s1416
      refine ⟨r3, _, rfl, hr3.kind, hr3.dp, rep.sh, rep.nd, rep.dp, rep.ln, ?_⟩
      refine ⟨_, rfl, v, f, rfl, hf9.same s916, fun H17 D4 s17' e4 => ⟨_, rfl, D4, _, f, _, _, rfl, e4, hpv.same (s1416.trans s17'), val_deep df.small (ib_small dg.small bp) (ib_small dh.small bp), fun r4 H18 s18 hr4 => ?_⟩⟩
      rw [ee] at hr4
      refine ⟨r4, _, rfl, hr4.kind, hr4.dp, rep.sh, rep.nd, rep.dp, rep.ln, rfl, _, rfl, ?_⟩
      rw [decide_eq_true rfl]
      refine iteF ?_
      have s918 := s916.trans (s17'.trans s18)
      exact ⟨_, _, _, rfl, kk.trans (Kp.of s918), (l9.same s918).mono (by omega)⟩
    · obtain ⟨o7, o8, o9, rfl, k8, l8⟩ := p
      have hf8 := hf7.kpl l7 k8
      have hg8 := hg7.kpl l7 k8
      have hh8 := hh7.kpl l7 k8
      have hF8 := hF.kpl l7 k8
      have kp8 := kp7.trans k8
      clear hf7 hg7 hh7 hF kp7 k8 l7
      have bt : ∀ t ∈ terms f, NB 4000 t.2.2 := SC.nb df.2 (by decide +kernel) (by decide +kernel)
      have btg : ∀ t ∈ terms g, NB 4000 t.2.2 := SC.nb dg.2 (by decide +kernel) (by decide +kernel)
      have bth : ∀ t ∈ terms h, NB 4000 t.2.2 := SC.nb dh.2 (by decide +kernel) (by decide +kernel)
      have btF : ∀ t ∈ terms F, NB 4000 t.2.2 := SC.nb zF (by decide +kernel) (by decide +kernel)
      obtain ⟨pux, zX, dX⟩ := put_ok (dx_dg df.1) (df.slope c6 slp_x) dg dh cd
      obtain ⟨puy, zY, dY⟩ := put_ok (dy_dg df.1) (df.slope c6 slp_y) dg dh cd
      refine ⟨_, rfl, _, _, f, dx f, rfl, hf8, .inl ⟨rfl, rfl⟩, bt, fun z1 H9 s9 hz1 => ?_⟩
      refine ⟨_, rfl, _, rfl, z1, u, w', dx f, g, h, rfl, hz1, hg8.same s9, hh8.same s9, pux, fun y1 H10 s10 hy1 => ?_⟩
      have s810 := s9.trans s10
      refine ⟨_, rfl, _, _, f, dy f, rfl, hf8.same s810, .inr ⟨rfl, rfl⟩, bt, fun z2 H11 s11 hz2 => ?_⟩
      have s811 := s810.trans s11
      refine ⟨_, rfl, _, rfl, z2, u, w', dy f, g, h, rfl, hz2, hg8.same s811, hh8.same s811, puy, fun y2 H12 s12 hy2 => ⟨_, _, rfl, ?_⟩⟩
      have s812 := s811.trans s12
      have hy1' := (hy1.same s11).same s12
      refine ⟨s2, fun pp np => ?_⟩
      have s13 : Same H12 (upd H12 pp (.tup [.str "x", .str "y"])) := same_upd np
      have hpp : (upd H12 pp (.tup [.str "x", .str "y"])) pp = some (.tup [.str "x", .str "y"]) := upd_same
      generalize upd H12 pp (.tup [.str "x", .str "y"]) = H13 at s13 hpp
      have s813 := s812.trans s13
      have hf13 := hf8.same s813
      have hg13 := hg8.same s813
      have hh13 := hh8.same s813
      have hF13 := hF8.same s813
      have hy1'' := hy1'.same s13
      have hy2'' := hy2.same s13
      have l13 := l8.same s813
      have kp13 := kp8.trans (Kp.of (D := a) s813)
      clear hf8 hg8 hh8 hF8 hy1' hy1 hy2 l8 kp8 hz1 hz2 s9 s10 s11 s12 s810 s811 s812 s813 s13 np
      have zX2 : SC (42 * 42 ^ 6) (2 ^ 745) (put (dx f) g h) := zX.mono (by decide +kernel)
      have zY2 : SC (42 * 42 ^ 6) (2 ^ 745) (put (dy f) g h) := zY.mono (by decide +kernel)
      have ppa : pp ≠ a := fun z => by
        obtain ⟨c, i, r, ns, ⟨h1, _⟩, _⟩ := l13
        rw [z, h1] at hpp
        cases hpp
      refine ⟨pp, rfl, ⟨_, tupAt hpp⟩, ?_⟩
      refine for_tup (xs := [.str "x", .str "y"]) (fun i σ H' => ∃ p8 p12 p13, σ = [some (.ref a), some (.int (c : Int)), some v, some (.int (d : Int)), some u, some w', some m7, o7, p8, o9, some y1, some y2, p12, p13] ∧ Kp a H13 H' ∧ LatheV H' a (t + 40 + 8 * 3 + 8 * i))
        ⟨_, _, _, rfl, Kp.of (Same.refl H13), l13⟩ (fun i σ H' _ p => ?_) (fun i zz σ H14 e p => ?_) (fun σ H14 p => ?_)
      · obtain ⟨p8, p12, p13, _, k', _⟩ := p
        exact tupAt (k' _ _ ppa hpp)
      · obtain ⟨p8, p12, p13, rfl, k14, l14⟩ := p
        have i2 : i < 2 := by rcases two_get e with ⟨h, _⟩ | ⟨h, _⟩ <;> omega
        have slp : ∃ z s, zz = .str z ∧ SlpW z s := by
          rcases two_get e with ⟨_, rfl⟩ | ⟨_, rfl⟩
          · exact ⟨_, _, rfl, slpw_x⟩
          · exact ⟨_, _, rfl, slpw_y⟩
        obtain ⟨z, s, rfl, W⟩ := slp
        have S := W.S
        refine ⟨_, rfl, a, _, rfl, l14, by omega, fun H15 pt x y k15 l15 hp bx by_ => ?_⟩
        have kk := k14.trans k15
        have hg15 := hg13.kpl l13 kk
        have hh15 := hh13.kpl l13 kk
        have hF15 := hF13.kpl l13 kk
        have hy115 := hy1''.kpl l13 kk
        have hy215 := hy2''.kpl l13 kk
        have bp : BPt x y := ⟨bx, by_⟩
        have zsg := dg.slope d6 S
        have zsh := dh.slope d6 S
        have nm : ∀ {f : Co}, SC (42 * 42 ^ 6) (2 ^ 745) f → NB 4000 (ev f x y) := fun h => (ib_made h bp).nb (by decide +kernel) (by decide +kernel)
        have ns : ∀ {f : Co}, SC 42 (2 ^ 108) f → NB 4000 (ev f x y) := fun h => (ib_small h bp).nb (by decide +kernel) (by decide +kernel)
        have np : ∀ {f g : Co}, SC (42 * 42 ^ 6) (2 ^ 745) f → SC 42 (2 ^ 108) g → NB 4000 (ev f x y * ev g x y) := fun h h2 => ((ib_made h bp).mul (ib_small h2 bp)).nb (by decide +kernel) (by decide +kernel)
        refine ⟨_, rfl, _, rfl, y1, pt, _, x, y, rfl, hy115, hp.two, val_made zX2 bp, fun r1 H16 s16 hr1 => ?_⟩
        refine ⟨_, rfl, _, rfl, u, z, g, s g, rfl, hg15.same s16, S.is g, btg, fun q1 H17 s17' hq1 => ?_⟩
        have s1517 := s16.trans s17'
        refine ⟨_, rfl, q1, pt, _, x, y, rfl, hq1, (hp.same s1517).two, val_small zsg bp, fun r2 H18 s18 hr2 => ?_⟩
        have s1518 := s1517.trans s18
        refine ⟨r1, r2, _, _, rfl, (hr1.same s17').same s18, hr2, nm zX2, ns zsg, True.intro, fun n1 H19 s19 hn1 => ?_⟩
        have s1519 := s1518.trans s19
        refine ⟨_, rfl, _, rfl, y2, pt, _, x, y, rfl, hy215.same s1519, (hp.same s1519).two, val_made zY2 bp, fun r3 H20 s20 hr3 => ?_⟩
        have s1520 := s1519.trans s20
        refine ⟨_, rfl, _, rfl, w', z, h, s h, rfl, hh15.same s1520, S.is h, bth, fun q2 H21 s21 hq2 => ?_⟩
        have s1521 := s1520.trans s21
        refine ⟨_, rfl, q2, pt, _, x, y, rfl, hq2, (hp.same s1521).two, val_small zsh bp, fun r4 H22 s22 hr4 => ?_⟩
        have s1522 := s1521.trans s22
        refine ⟨r3, r4, _, _, rfl, (hr3.same s21).same s22, hr4, nm zY2, ns zsh, True.intro, fun n2 H23 s23 hn2 => ?_⟩
        have s1923 := (s20.trans s21).trans (s22.trans s23)
        refine ⟨n1, n2, _, _, rfl, hn1.same s1923, hn2, np zX2 zsg, np zY2 zsh, True.intro, fun gr H24 s24 hgr => ?_⟩
        have s1524 := (s1519.trans s1923).trans s24
        have eg := W.way f g h d d df6.1 dg.1 dh.1 ft x y
        rw [eF] at eg
        have hgr : NumV H24 gr (ev (put (dx f) g h) x y * ev (s g) x y + ev (put (dy f) g h) x y * ev (s h) x y) := hgr
        rw [← eg] at hgr
        have zsF : SC (42 * 42 ^ 6) (2 ^ 745) (s F) := (S.sc _ _ _ zF (dF.lw (by decide))).mono (by decide +kernel)
        have rep := numD_rep (nb_made zsF bp)
        refine ⟨_, rfl, _, rfl, m7, z, F, s F, rfl, hF15.same s1524, S.is F, btF, fun q3 H25 s25 hq3 => ?_⟩
        refine ⟨_, rfl, q3, pt, _, x, y, rfl, hq3, ((hp.same s1524).same s25).two, val_made zsF bp, fun r5 H26 s26 hr5 => ?_⟩
        refine ⟨r5, _, rfl, hr5.kind, hr5.dp, rep.sh, rep.nd, rep.dp, rep.ln, ?_⟩
        have hgr' := (hgr.same s25).same s26
        refine ⟨_, rfl, gr, _, rfl, hgr.kind, hgr'.dp, rep.sh, rep.nd, rep.dp, rep.ln, rfl, _, rfl, ?_⟩
        rw [decide_eq_true rfl]
        refine iteF ?_
        have s1526 := (s1524.trans s25).trans s26
        exact ⟨_, _, _, rfl, kk.trans (Kp.of s1526), (l15.same s1526).mono (by omega)⟩
      · obtain ⟨p8, p12, p13, rfl, k14, l14⟩ := p
        have hf14 := hf13.kpl l13 k14
        have kp14 := kp13.trans k14
        obtain ⟨pun, eun⟩ := put_unit df6
        refine ⟨_, rfl, ?_⟩
        dsimp only [tCons]
        refine make_of (ts := [(1, 0, 1)]) (fun R go => ⟨s3, fun p1 n1 => ⟨sz (by simp), fun L1 nL1 => go L1 [.ref p1] _ (Same.upd (same_upd n1) nL1) (.inr upd_same) (mk_unit (same_upd nL1 _ _ upd_same))⟩⟩) (unit_ok (by decide)) fun b1 H16 s1416 hb1 => ?_
        refine make_of (ts := [(0, 1, 1)]) (fun R go => ⟨s3, fun p1 n1 => ⟨sz (by simp), fun L1 nL1 => go L1 [.ref p1] _ (Same.upd (same_upd n1) nL1) (.inr upd_same) (mk_unit (same_upd nL1 _ _ upd_same))⟩⟩) (unit_ok (by decide)) fun b2 H18 s1618 hb2 => ?_
        have s1418 := s1416.trans s1618
        refine ⟨v, b1, b2, f, g10, g01, rfl, hf14.same s1418, hb1.same s1618, hb2, pun, fun b3 H19 s19 hb3 => ?_⟩
        rw [eun] at hb3
        have s1419 := s1418.trans s19
        refine ⟨_, rfl, hb3.both (hf14.same s1419), fun H20 s20 => ?_⟩
        have sF : Same H14 H20 := s1419.trans s20
        exact q H20 (kp14.trans (Kp.of sF)) ((l14.same sF).mono (by simp))
end
end Kd

namespace Kd
open PySem PySem.Spec PyProof.Rows L2 Pk
theorem chr_ok (c : Char) : c.toNat < 0x110000 := by
  have h := c.valid
  rcases h with h | ⟨_, h⟩
  · exact Nat.lt_trans h (by decide)
  · exact h
theorem ok_of (s : String) : PyData.strOk (Str.ofString s) = true := by
  unfold PyData.strOk
  rw [Str.ofString_eq_toList]
  simp only [List.all_toArray, List.all_map, List.all_eq_true]
  intro c _
  exact decide_eq_true (chr_ok c)
theorem ok_app {a b : Str} (h : PyData.strOk a = true) (h2 : PyData.strOk b = true) : PyData.strOk (a ++ b) = true := by
  unfold PyData.strOk at *
  show (a.cps ++ b.cps).all _ = true
  rw [Array.all_append, h, h2]
  rfl
theorem numD_str (r : Rat) : PyData.strOk (numD r).shown = true := by
  unfold numD
  split
  · exact ok_of _
  · show PyData.strOk (("(" : Str) ++ (Str.ofString (toString r.num) ++ (", " : Str) ++ Str.ofString (toString (r.den : Int))) ++ (")" : Str)) = true
    exact ok_app (ok_app (ok_of _) (ok_app (ok_app (ok_of _) (ok_of _)) (ok_of _))) (ok_of _)
theorem strs_dp {K : PySem.W.Frag} {H : Hp} {S : Str} : ∀ n : Nat, DpAll K H (List.replicate n (V.str S)) (List.replicate n (PyData.str S))
  | 0 => .nil
  | n + 1 => .cons (.str S) (strs_dp n)
theorem strs_shaped {S : Str} (h : PyData.strOk S = true) : SeqAt.shaped (.list (List.replicate 3 (PyData.str S))) = true := by
  show (((PyData.strOk S) && ((PyData.strOk S) && ((PyData.strOk S) && true))) && decide _) = true
  rw [h]
  simp [List.replicate, PyData.depth, PyData.depthAll]
/-- over two lists at once -/
theorem lc_zipL {K : PySem.W.Frag} {a b : Addr} {xs ys : List V} {g : TG} {tt : TT} {te : TE} {vs : List Nat} {σ : L2.St} {H1 : Hp} {D : Addr} {Qd : Hp → Prop} (len : xs.length = ys.length) (Pv : Nat → Hp → Prop) (h0 : Pv 0 (upd H1 D (.lst []))) (hl : ∀ i H, Pv i H → SqL K H a xs ∧ SqL K H b ys)
    (hs : ∀ i x y T H, xs[i]? = some x → ys[i]? = some y → H T = none → Pv i H → g (.ref T) (wipe σ vs) (upd H T (.tup [x, y])) fun σ2 H2' => wipe σ2 vs = wipe σ vs ∧ tt σ2 H2' fun b H3 =>
      if b = true then te σ2 H3 fun y H4 => ∃ acc, H4 D = some (.lst acc) ∧ acc.length < sizeLine ∧ Pv (i + 1) (upd H4 D (.lst (acc ++ [y]))) else Pv (i + 1) H3) (hd : ∀ H, Pv xs.length H → Qd H) :
    ∃ W : Nat → Nat → Hp → Prop, (∃ m, W 0 m (upd H1 D (.lst []))) ∧ ∀ i m H, W i m H →
      ((Itz K a b).stop i H ∧ Qd H) ∨ ((Itz K a b).go i H ∧ ∃ Nx : Hp → Prop, (∀ H', Nx H' → ∃ m', m' < m ∧ W (i + 1) m' H') ∧ ∀ x H', (Itz K a b).yld i H x H' → g x (wipe σ vs) H' fun σ2 H2' => wipe σ2 vs = wipe σ vs ∧ tt σ2 H2' fun b H3 =>
        if b = true then te σ2 H3 fun y H4 => ∃ acc, H4 D = some (.lst acc) ∧ acc.length < sizeLine ∧ Nx (upd H4 D (.lst (acc ++ [y]))) else Nx H3) := by
  refine ⟨fun i m H => i + m = xs.length ∧ Pv i H, ⟨xs.length, Nat.zero_add _, h0⟩, fun i m H ⟨e, p⟩ => ?_⟩
  obtain ⟨qa, qb⟩ := hl _ _ p
  cases m with
  | zero =>
    obtain rfl : i = xs.length := by omega
    exact .inl ⟨⟨xs, ys, qa, qb, .inl (Nat.le_refl _)⟩, hd H p⟩
  | succ m =>
    have l1 : i < xs.length := by omega
    have l2 : i < ys.length := by omega
    exact .inr ⟨⟨xs, ys, _, _, qa, qb, List.getElem?_eq_getElem l1, List.getElem?_eq_getElem l2⟩, Pv (i + 1), fun H' p' => ⟨m, by omega, by omega, p'⟩, fun x H' ⟨T, u, v, e1, e2, e3, e4, e5⟩ => by
      subst e3 e1
      exact hs i u v T _ (e4 xs qa) (e5 ys qb) e2 p⟩
/-! ### sizes: what is led -/
theorem L1_zero_IB {D : Nat} (h : 0 < D) : IB D 0 0 := ⟨h, It.zero D, by rw [ra_zero, Rat.zero_mul]; exact Rat.le_refl⟩
theorem sc_lin {D M1 M2 M3 : Nat} {a b c : Rat} (ha : IB D M1 a) (hb : IB D M2 b) (hc : IB D M3 c) : SC D (M1 + M2 + M3) (lin a b c) := by
  refine ⟨ha.pos, fun i j => ?_, ?_⟩
  · unfold lin
    split
    · exact ha.it
    · split
      · exact hb.it
      · split
        · exact hc.it
        · exact It.zero D
  · have h1 := Rat.mul_le_mul_of_nonneg_right (L1_lin a b c) (cast_nn D)
    have h2 := ha.le
    have h3 := hb.le
    have h4 := hc.le
    rw [Rat.natCast_add, Rat.natCast_add]
    grind
def nmenu : List Rat := [2, -1, mkRat 1 3, mkRat (-5) 2, 10 ^ 12, 1]
structure NumB (E : Nat) (r : Rat) : Prop where
  nz : r ≠ 0
  ib : IB 6 (2 ^ 43) r
  iv : IB E (2 ^ 40) (1 / r)
  e1 : E ≤ 2 ^ 40
theorem nmenu_ok : ∀ r ∈ nmenu, ∃ E, NumB E r := by
  intro r hr
  unfold nmenu at hr
  simp only [List.mem_cons, List.mem_nil_iff, or_false] at hr
  rcases hr with rfl | rfl | rfl | rfl | rfl | rfl
  · exact ⟨2, by decide +kernel, ⟨by decide, ⟨12, by decide +kernel⟩, by decide +kernel⟩, ⟨by decide, ⟨1, by decide +kernel⟩, by decide +kernel⟩, by decide +kernel⟩
  · exact ⟨1, by decide +kernel, ⟨by decide, ⟨-6, by decide +kernel⟩, by decide +kernel⟩, ⟨by decide, ⟨-1, by decide +kernel⟩, by decide +kernel⟩, by decide +kernel⟩
  · exact ⟨1, by decide +kernel, ⟨by decide, ⟨2, by decide +kernel⟩, by decide +kernel⟩, ⟨by decide, ⟨3, by decide +kernel⟩, by decide +kernel⟩, by decide +kernel⟩
  · exact ⟨5, by decide +kernel, ⟨by decide, ⟨-15, by decide +kernel⟩, by decide +kernel⟩, ⟨by decide, ⟨-2, by decide +kernel⟩, by decide +kernel⟩, by decide +kernel⟩
  · exact ⟨10 ^ 12, by decide +kernel, ⟨by decide, ⟨6 * 10 ^ 12, by decide +kernel⟩, by decide +kernel⟩, ⟨by decide +kernel, ⟨1, by decide +kernel⟩, by decide +kernel⟩, by decide +kernel⟩
  · exact ⟨1, by decide +kernel, ⟨by decide, ⟨6, by decide +kernel⟩, by decide +kernel⟩, ⟨by decide, ⟨1, by decide +kernel⟩, by decide +kernel⟩, by decide +kernel⟩
/-- a line put in, twice -/
theorem line_put {D M E m : Nat} {f g h : Co} (hf : Dg 6 f) (zf : SC D M f) (hg : Dg 1 g) (hh : Dg 1 h) (zg : SC E m g) (zh : SC E m h) (le : E ≤ m) (s1 : Sz D M) (s2 : Sz (E ^ 6) (m ^ 6)) (s3 : Sz (D * E ^ 6) (M * m ^ 6 + M * m ^ 6)) : Put f g h ∧ SC (D * E ^ 6) (M * m ^ 6) (put f g h) ∧ Dg 6 (put f g h) := by
  have ft := fit_of (c := 6) (d := 1) hf (by decide)
  exact ⟨⟨D, M, E, m, 1, 1, zf, zg, zh, le, hg, hh, ft, s1, s2, s3⟩, SC.put zf zg zh le, put_dg hg hh ft⟩
theorem ev_line {f g h : Co} (hf : Dg 6 f) (hg : Dg 1 g) (hh : Dg 1 h) (x y : Rat) : ev (put f g h) x y = ev f (ev g x y) (ev h x y) := ev_put hg hh (fit_of (c := 6) (d := 1) hf (by decide)) x y
theorem lt4000 {n k : Nat} (h : n ≤ 2 ^ k) (hk : k < 4000) : n < 2 ^ 4000 := Nat.lt_of_le_of_lt h (Nat.pow_lt_pow_right (by decide) hk)
theorem p6 {n k : Nat} (h : n ≤ 2 ^ k) : n ^ 6 ≤ 2 ^ (k * 6) := by
  rw [Nat.pow_mul]
  exact Nat.pow_le_pow_left h 6
theorem m2 {a b i j : Nat} (h : a ≤ 2 ^ i) (h2 : b ≤ 2 ^ j) : a * b ≤ 2 ^ (i + j) := by
  rw [Nat.pow_add]
  exact Nat.mul_le_mul h h2
theorem a2 {a b i : Nat} (h : a ≤ 2 ^ i) (h2 : b ≤ 2 ^ i) : a + b ≤ 2 ^ (i + 1) := by
  rw [Nat.pow_succ]
  omega
/-- sizes by bits -/
theorem line_bits {D M E m d k e l : Nat} (hD : D ≤ 2 ^ d) (hM : M ≤ 2 ^ k) (hE : E ≤ 2 ^ e) (hm : m ≤ 2 ^ l) (b : d + e * 6 < 3990) (b2 : k + l * 6 < 3990) : Sz D M ∧ Sz (E ^ 6) (m ^ 6) ∧ Sz (D * E ^ 6) (M * m ^ 6 + M * m ^ 6) :=
  ⟨⟨lt4000 hD (by omega), lt4000 hM (by omega)⟩, ⟨lt4000 (p6 hE) (by omega), lt4000 (p6 hm) (by omega)⟩, ⟨lt4000 (m2 hD (p6 hE)) (by omega), lt4000 (a2 (m2 hM (p6 hm)) (m2 hM (p6 hm))) (by omega)⟩⟩
theorem val_bits {D M E m d k e l : Nat} {f : Co} {x y : Rat} (h : SC D M f) (hx : IB E m x) (hy : IB E m y) (le : E ≤ m) (hD : D ≤ 2 ^ d) (hM : M ≤ 2 ^ k) (hE : E ≤ 2 ^ e) (hm : m ≤ 2 ^ l) (b : d + e * 6 < 3990) (b2 : k + l * 6 < 3990) : Val f x y := by
  obtain ⟨h1, h2, h3⟩ := line_bits hD hM hE hm b b2
  exact ⟨D, M, E, m, h, hx, hy, le, h1, h2, ⟨h3.1, Nat.lt_of_le_of_lt (Nat.le_add_left _ _) h3.2⟩⟩
end Kd

namespace Kd
open PySem PySem.Spec PyProof.Rows L2 Pk
theorem nbs {r : Rat} (h : Sm r) : NB 4000 r := NB.mono (m := 64) ⟨h.1, h.2⟩ (by decide)
theorem nb_bits {D M d k : Nat} {r : Rat} (h : IB D M r) (hD : D ≤ 2 ^ d) (hM : M ≤ 2 ^ k) (h1 : d < 4000) (h2 : k < 4000) : NB 4000 r := h.nb (lt4000 hD h1) (lt4000 hM h2)
theorem sc_move {a : Rat} (h : IB 60 (2 ^ 71) a) : SC 60 (2 ^ 72) (lin 1 0 a) ∧ SC 60 (2 ^ 72) (lin 0 1 a) := by
  have h1 : IB 60 60 1 := ⟨by decide, ⟨60, by decide +kernel⟩, by decide +kernel⟩
  exact ⟨(sc_lin h1 (L1_zero_IB (by decide)) h).mono (by decide +kernel), (sc_lin (L1_zero_IB (by decide)) h1 h).mono (by decide +kernel)⟩
theorem sc_turn {D : Nat} {x y : Rat} (hD : D ≤ 25) (h : IB D D x) (h2 : IB D D y) : SC D (2 ^ 6) (lin x y 0) := (sc_lin h h2 (L1_zero_IB h.pos)).mono (by
  have : (2 : Nat) ^ 6 = 64 := by decide
  omega)
theorem sc_wide {E m : Nat} {r : Rat} (h : IB E m r) : SC E m (lin r 0 0) ∧ SC E m (lin 0 r 0) :=
  ⟨(sc_lin h (L1_zero_IB h.pos) (L1_zero_IB h.pos)).mono (by omega), (sc_lin (L1_zero_IB h.pos) h (L1_zero_IB h.pos)).mono (by omega)⟩
theorem le64 {D : Nat} (h : D ≤ 25) : D ≤ 2 ^ 6 := Nat.le_trans h (by decide)
theorem le32 {D : Nat} (h : D ≤ 25) : D ≤ 2 ^ 5 := Nat.le_trans h (by decide)
theorem inv_eq {r : Rat} (h : r ≠ 0) : Rat.divInt (r.den : Int) r.num = 1 / r := by
  rw [Rat.div_def, Rat.one_mul, Rat.inv_def]
theorem neg1 (a : Rat) : -(-1 * a) = a := by grind
theorem led_move {f : Co} (df : Drawn 6 f) {A B : Rat} (bA : IB 60 (2 ^ 71) A) (bB : IB 60 (2 ^ 71) B) : ∃ G, G = put f (lin 1 0 (-A)) (lin 0 1 (-B)) ∧ Put f (lin 1 0 (-A)) (lin 0 1 (-B)) ∧
    (∀ x y, BPt x y → Val G (x + A) (y + B) ∧ ev G (x + A) (y + B) = ev f x y) ∧ Put G (lin 1 0 (-(-1 * A))) (lin 0 1 (-(-1 * B))) ∧ put G (lin 1 0 (-(-1 * A))) (lin 0 1 (-(-1 * B))) = f := by
  refine ⟨_, rfl, ?_⟩
  obtain ⟨x1, _⟩ := sc_move bA.neg
  obtain ⟨_, x2⟩ := sc_move bB.neg
  obtain ⟨s1, s2, s3⟩ := line_bits (D := 42) (M := 2 ^ 105) (E := 60) (m := 2 ^ 72) (d := 6) (k := 105) (e := 6) (l := 72) (by decide) (Nat.le_refl _) (by decide) (Nat.le_refl _) (by decide) (by decide)
  obtain ⟨p, z, dg⟩ := line_put df.1 df.2 (lin_dg 1 0 (-A)) (lin_dg 0 1 (-B)) x1 x2 (by decide +kernel) s1 s2 s3
  refine ⟨p, fun x y b => ⟨?_, ?_⟩, ?_, ?_⟩
  · have hx : IB 60 (2 ^ 72) (x + A) := (b.1.add bA).mono (by decide +kernel)
    have hy : IB 60 (2 ^ 72) (y + B) := (b.2.add bB).mono (by decide +kernel)
    exact val_bits z hx hy (by decide +kernel) (d := 6 + 6 * 6) (k := 105 + 72 * 6) (e := 6) (l := 72) (m2 (by decide) (p6 (by decide))) (m2 (Nat.le_refl _) (p6 (Nat.le_refl _))) (by decide) (Nat.le_refl _) (by decide) (by decide)
  · rw [ev_line df.1 (lin_dg _ _ _) (lin_dg _ _ _), ev_lin, ev_lin]
    congr 1 <;> grind
  · rw [neg1, neg1]
    obtain ⟨y1, _⟩ := sc_move bA
    obtain ⟨_, y2⟩ := sc_move bB
    obtain ⟨t1, t2, t3⟩ := line_bits (D := 42 * 60 ^ 6) (M := 2 ^ 105 * (2 ^ 72) ^ 6) (E := 60) (m := 2 ^ 72) (d := 6 + 6 * 6) (k := 105 + 72 * 6) (e := 6) (l := 72) (m2 (by decide) (p6 (by decide))) (m2 (Nat.le_refl _) (p6 (Nat.le_refl _))) (by decide) (Nat.le_refl _) (by decide) (by decide)
    exact (line_put dg z (lin_dg 1 0 A) (lin_dg 0 1 B) y1 y2 (by decide +kernel) t1 t2 t3).1
  · rw [neg1, neg1]
    refine put_back df.1 (lin_dg _ _ _) (lin_dg _ _ _) (lin_dg _ _ _) (lin_dg _ _ _) (fun x y => ?_) (fun x y => ?_) <;> rw [ev_lin, ev_lin, ev_lin] <;> grind
theorem led_turn {f : Co} (df : Drawn 6 f) {c s : Rat} {D : Nat} (tp : TurnP c s) (tb : TurnB D c s) : ∃ G, G = put f (lin c s 0) (lin (-s) c 0) ∧ Put f (lin c s 0) (lin (-s) c 0) ∧
    (∀ x y, BPt x y → Val G (c * x + -1 * (s * y)) (s * x + c * y) ∧ ev G (c * x + -1 * (s * y)) (s * x + c * y) = ev f x y ∧ NB 4000 (c * x) ∧ NB 4000 (s * y) ∧ NB 4000 (-1 * (s * y)) ∧ NB 4000 (s * x) ∧ NB 4000 (c * y)) ∧
    TurnP c (-1 * s) ∧ Put G (lin c (-1 * s) 0) (lin (-(-1 * s)) c 0) ∧ put G (lin c (-1 * s) 0) (lin (-(-1 * s)) c 0) = f := by
  refine ⟨_, rfl, ?_⟩
  obtain ⟨d1, d2, ic, is⟩ := tb
  obtain ⟨sc, ss, one⟩ := tp
  have x1 := sc_turn d2 ic is
  have x2 := sc_turn d2 is.neg ic
  have b6 := le64 d2
  obtain ⟨s1, s2, s3⟩ := line_bits (D := 42) (M := 2 ^ 105) (E := D) (m := 2 ^ 6) (d := 6) (k := 105) (e := 6) (l := 6) (by decide) (Nat.le_refl _) b6 (Nat.le_refl _) (by decide) (by decide)
  obtain ⟨p, z, dg⟩ := line_put df.1 df.2 (lin_dg c s 0) (lin_dg (-s) c 0) x1 x2 b6 s1 s2 s3
  have hD : 42 * D ^ 6 ≤ 2 ^ (6 + 6 * 6) := m2 (by decide) (p6 b6)
  have hM : 2 ^ 105 * (2 ^ 6) ^ 6 ≤ 2 ^ (105 + 6 * 6) := m2 (Nat.le_refl _) (p6 (Nat.le_refl _))
  refine ⟨p, fun x y b => ?_, ⟨sc, ?_, ?_⟩, ?_, ?_⟩
  · have i1 := ic.mul b.1
    have i2 := is.mul b.2
    have i3 := is.mul b.1
    have i4 := ic.mul b.2
    have i5 : IB (D * 60) (D * 2 ^ 71) (-1 * (s * y)) := by
      have e : -1 * (s * y) = -(s * y) := by grind
      rw [e]
      exact i2.neg
    have e60 : D * 60 ≤ 2 ^ (6 + 6) := m2 b6 (by decide)
    have e71 : D * 2 ^ 71 ≤ 2 ^ (6 + 71) := m2 b6 (Nat.le_refl _)
    have eS : D * 2 ^ 71 + D * 2 ^ 71 ≤ 2 ^ (6 + 71 + 1) := a2 e71 e71
    have nbx : ∀ {r : Rat}, IB (D * 60) (D * 2 ^ 71) r → NB 4000 r := fun h => nb_bits h e60 e71 (by decide) (by decide)
    refine ⟨?_, ?_, nbx i1, nbx i2, nbx i5, nbx i3, nbx i4⟩
    · refine val_bits z (i1.add i5) (i3.add i4) ?_ (d := 6 + 6 * 6) (k := 105 + 6 * 6) (e := 6 + 6) (l := 6 + 71 + 1) hD hM e60 eS (by decide) (by decide)
      exact Nat.le_trans (Nat.mul_le_mul_left D (show 60 ≤ 2 ^ 71 by decide)) (Nat.le_add_right _ _)
    · rw [ev_line df.1 (lin_dg _ _ _) (lin_dg _ _ _), ev_lin, ev_lin]
      congr 1 <;> grind
  · have e : -1 * s = -s := by grind
    rw [e]
    exact ⟨by rw [Rat.neg_num, Int.natAbs_neg]; exact ss.1, by rw [Rat.neg_den]; exact ss.2⟩
  · grind
  · have e : -1 * s = -s := by grind
    rw [e, Rat.neg_neg]
    have y1 := sc_turn d2 ic is.neg
    have y2 := sc_turn d2 is ic
    obtain ⟨t1, t2, t3⟩ := line_bits (E := D) (m := 2 ^ 6) (e := 6) (l := 6) hD hM b6 (Nat.le_refl _) (by decide) (by decide)
    exact (line_put dg z (lin_dg c (-s) 0) (lin_dg s c 0) y1 y2 b6 t1 t2 t3).1
  · have e : -1 * s = -s := by grind
    rw [e, Rat.neg_neg]
    refine put_back df.1 (lin_dg _ _ _) (lin_dg _ _ _) (lin_dg _ _ _) (lin_dg _ _ _) (fun x y => ?_) (fun x y => ?_) <;> rw [ev_lin, ev_lin, ev_lin] <;> grind
theorem led_wide {f : Co} (df : Drawn 6 f) {r : Rat} {E : Nat} (nb : NumB E r) : ∃ G, G = put f (lin (1 / r) 0 0) (lin 0 (1 / r) 0) ∧ Put f (lin (1 / r) 0 0) (lin 0 (1 / r) 0) ∧ NB 4000 r ∧
    (∀ x y, BPt x y → Val G (r * x) (r * y) ∧ ev G (r * x) (r * y) = ev f x y) ∧
    1 / r ≠ 0 ∧ NB 4000 (1 / r) ∧ Put G (lin (1 / (1 / r)) 0 0) (lin 0 (1 / (1 / r)) 0) ∧ put G (lin (1 / (1 / r)) 0 0) (lin 0 (1 / (1 / r)) 0) = f := by
  refine ⟨_, rfl, ?_⟩
  obtain ⟨x1, x2⟩ := sc_wide nb.iv
  have r0 := nb.nz
  have inv : (1 / r) * r = 1 := by rw [Rat.div_mul_cancel r0]
  have i0 : 1 / r ≠ 0 := fun z => by
    rw [z, Rat.zero_mul] at inv
    exact absurd inv (by decide)
  have back : 1 / (1 / r) = r := by
    have h := Rat.div_mul_cancel (a := 1) i0
    have : 1 / (1 / r) = 1 / (1 / r) * ((1 / r) * r) := by rw [inv, Rat.mul_one]
    rw [this, ← Rat.mul_assoc, h, Rat.one_mul]
  obtain ⟨s1, s2, s3⟩ := line_bits (D := 42) (M := 2 ^ 105) (E := E) (m := 2 ^ 40) (d := 6) (k := 105) (e := 40) (l := 40) (by decide) (Nat.le_refl _) nb.e1 (Nat.le_refl _) (by decide) (by decide)
  obtain ⟨p, z, dg⟩ := line_put df.1 df.2 (lin_dg (1 / r) 0 0) (lin_dg 0 (1 / r) 0) x1 x2 nb.e1 s1 s2 s3
  have hD : 42 * E ^ 6 ≤ 2 ^ (6 + 40 * 6) := m2 (by decide) (p6 nb.e1)
  have hM : 2 ^ 105 * (2 ^ 40) ^ 6 ≤ 2 ^ (105 + 40 * 6) := m2 (Nat.le_refl _) (p6 (Nat.le_refl _))
  have nr : NB 4000 r := nb_bits nb.ib (d := 3) (k := 43) (by decide) (Nat.le_refl _) (by decide) (by decide)
  refine ⟨p, nr, fun x y b => ⟨?_, ?_⟩, i0, nb_bits nb.iv nb.e1 (Nat.le_refl _) (by decide) (by decide), ?_, ?_⟩
  · exact val_bits z (nb.ib.mul b.1) (nb.ib.mul b.2) (by decide +kernel) (d := 6 + 40 * 6) (k := 105 + 40 * 6) (e := 9) (l := 43 + 71) hD hM (by decide) (m2 (Nat.le_refl _) (Nat.le_refl _)) (by decide) (by decide)
  · have e1 : ∀ w : Rat, (1 / r) * (r * w) = w := fun w => by rw [← Rat.mul_assoc, inv, Rat.one_mul]
    rw [ev_line df.1 (lin_dg _ _ _) (lin_dg _ _ _), ev_lin, ev_lin]
    have a1 : 1 / r * (r * x) + 0 * (r * y) + 0 = x := by rw [e1]; grind
    have a2' : 0 * (r * x) + 1 / r * (r * y) + 0 = y := by rw [e1]; grind
    rw [a1, a2']
  · rw [back]
    obtain ⟨y1, y2⟩ := sc_wide nb.ib
    obtain ⟨t1, t2, t3⟩ := line_bits (E := 6) (m := 2 ^ 43) (e := 3) (l := 43) hD hM (by decide) (Nat.le_refl _) (by decide) (by decide)
    exact (line_put dg z (lin_dg r 0 0) (lin_dg 0 r 0) y1 y2 (by decide +kernel) t1 t2 t3).1
  · rw [back]
    have e1 : ∀ w : Rat, (1 / r) * (r * w) = w := fun w => by rw [← Rat.mul_assoc, inv, Rat.one_mul]
    refine put_back df.1 (lin_dg _ _ _) (lin_dg _ _ _) (lin_dg _ _ _) (lin_dg _ _ _) (fun x y => ?_) (fun x y => ?_)
    · rw [ev_lin, ev_lin, ev_lin]
      have : r * x + 0 * y + 0 = r * x := by grind
      rw [this, e1]
      grind
    · rw [ev_lin, ev_lin, ev_lin]
      have : 0 * x + r * y + 0 = r * y := by grind
      rw [this, e1]
      grind
end Kd

namespace Kd
open PySem PySem.Spec PyProof.Rows L2 Pk
theorem sameP_mon {C : Addr} : ∀ a b H H', Ext H H' → SameP C a b H → SameP C a b H' := fun a b H H' e ⟨f, ⟨d1, q1, u1, x1, x2, x3, x4⟩, ⟨d2, q2, u2', y1, y2, y3, y4⟩⟩ =>
  ⟨f, ⟨d1, q1, u1, e _ _ x1, e _ _ x2, x3.same e, x4⟩, ⟨d2, q2, u2', e _ _ y1, e _ _ y2, y3.same e, y4⟩⟩
theorem DictE.same {H H' : Hp} {D : Addr} {f : Co} (h : DictE H D f) (s : Same H H') : DictE H' D f := by
  obtain ⟨kvs, h1, h2⟩ := h
  exact ⟨kvs, s _ _ h1, Paired.mapP h2 fun _ _ q => ⟨q.1, q.2.same s⟩⟩
theorem num_menu {H : Hp} {p1 p2 : Addr} (e1 : H p1 = some (.tup [.int 1, .int 3])) (e2 : H p2 = some (.tup [.int (-5), .int 2])) {k : Nat} {x : V} (e : [V.int 2, .int (-1), .ref p1, .ref p2, .int (10 ^ (12 : Int).toNat), .int 1][k]? = some x) : ∃ r ∈ nmenu, NumV H x r := by
  rcases k with _ | _ | _ | _ | _ | _ | k
  · obtain rfl := Option.some.inj e
    exact ⟨2, by simp [nmenu], num_int H 2⟩
  · obtain rfl := Option.some.inj e
    exact ⟨-1, by simp [nmenu], num_int H (-1)⟩
  · obtain rfl := Option.some.inj e
    refine ⟨mkRat 1 3, by simp [nmenu], .inr ⟨by decide +kernel, p1, rfl, ?_⟩⟩
    rw [e1, show (mkRat 1 3).num = 1 by decide +kernel, show (mkRat 1 3).den = 3 by decide +kernel]
    rfl
  · obtain rfl := Option.some.inj e
    refine ⟨mkRat (-5) 2, by simp [nmenu], .inr ⟨by decide +kernel, p2, rfl, ?_⟩⟩
    rw [e2, show (mkRat (-5) 2).num = -5 by decide +kernel, show (mkRat (-5) 2).den = 2 by decide +kernel]
    rfl
  · obtain rfl := Option.some.inj e
    refine ⟨10 ^ 12, by simp [nmenu], .inl ⟨by decide +kernel, ?_⟩⟩
    exact congrArg V.int (by decide +kernel)
  · obtain rfl := Option.some.inj e
    exact ⟨1, by simp [nmenu], num_int H 1⟩
  · simp at e
theorem three_get {a b c x : V} {i : Nat} (h : [a, b, c][i]? = some x) : (i = 0 ∧ x = a) ∨ (i = 1 ∧ x = b) ∨ (i = 2 ∧ x = c) := by
  match i, h with
  | 0, h => exact .inl ⟨rfl, (Option.some.inj h).symm⟩
  | 1, h => exact .inr (.inl ⟨rfl, (Option.some.inj h).symm⟩)
  | 2, h => exact .inr (.inr ⟨rfl, (Option.some.inj h).symm⟩)
  | n + 3, h => simp at h
theorem PtV.kp {D : Addr} {H H' : Hp} {v : V} {x y : Rat} (h : PtV H v x y) (n : NoT H D) (k : Kp D H H') : PtV H' v x y := by
  obtain ⟨p, a, b, e, h1, h2, h3⟩ := h
  exact ⟨p, a, b, e, k _ _ (fun z => n _ (z ▸ h1)) h1, h2.kp n k, h3.kp n k⟩
section
variable {P : Program} {w : World} {K : PySem.W.Frag} {mg : Str → Option Value} {base : Heap} {C : Addr}
def spLedRight (C : Addr) : Sp := fun vs H Q _ => ∃ a t v f, vs = [.ref a, v] ∧ LatheV H a t ∧ t ≤ 7000 ∧ PolyV C H v f ∧ Drawn 6 f ∧ ∀ H', Kp a H H' → LatheV H' a (t + 40) → Q (.bl true) H'
theorem ok_led_right (R : Row K mg "_law_led_right" (top 70) ["_law_lathe_here", "_law_poly_here"]) (PC : PolyC P w K mg base C) (PE : PolyE P w K mg base C) (gp : mg "repr" = none) (gr : mg "range" = none) (gz : mg "zip" = none)
    (OO : Okk P w K mg base "_law_one_of" 2 ["_law_lathe_here", "_law_some_here"] spOneOf) (OPt : Okk P w K mg base "_law_point" 4 ["_law_lathe_here"] spPoint) (OTu : Okk P w K mg base "_law_turn" 2 ["_law_lathe_here"] spTurn)
    (OM : OkW P w K mg base "moved" 11 ["poly", "point"] (spMoved C)) (OTP : OkW P w K mg base "turned_poly" 11 ["poly", "turn"] (spTurnedPoly C)) (OSt : OkW P w K mg base "stretched" 11 ["poly", "number"] (spStretched C))
    (OW : Okk P w K mg base "_law_worth" 4 ["_law_found", "_law_point_here"] spWorth) (OD : Okk P w K mg base "_law_dict" 1 ["_law_poly_here"] (spLawDict C)) (OB : Okk P w K mg base "_law_both" 1 ["_law_number"] spHalves) (OL : Okk P w K mg base "_law_low" 1 ["_law_above", "_law_under"] spLowest)
    (OT : Okk P w K mg base "_law_times" 3 ["_law_one", "_law_other"] spMul) (OPl : Okk P w K mg base "_law_plus" 3 ["_law_one", "_law_other"] spAdd) : Okg P w K mg base "_law_led_right" 12 ["_law_lathe_here", "_law_poly_here"] (spLedRight C) := by
  obtain ⟨fE, fdE, FE, he, hfe, bE⟩ := PE.eqf
  refine okg R sc_law_led_right (fun vs H Q E h => ?_) (fun f cdv A outer s H vs Q E gd hr h => ?_)
  · obtain ⟨a, t, v, f, rfl, _⟩ := h
    rfl
  · obtain ⟨a, t, v, f, rfl, hl, t4, hv, df, q⟩ := h
    have nd := sc_law_led_right.nd
    refine ⟨_, pss_cons (ps_asg (pe_tup (pa_cons (pe_cl OPt hr (pa_cons (pv 0) pa_nil)) (pa_cons (pe_cl OTu hr (pa_cons (pv 0) pa_nil)) (pa_cons (pe_cl OO hr (pa_cons (pv 0) (pa_cons (pe_lst (pa_cons pe_int (pa_cons (pe_un un_neg pe_int) (pa_cons (pe_tup (pa_cons pe_int (pa_cons pe_int pa_nil))) (pa_cons (pe_tup (pa_cons (pe_un un_neg pe_int) (pa_cons pe_int pa_nil))) (pa_cons (pe_op op_pow pe_int pe_int) (pa_cons pe_int pa_nil))))))) pa_nil))) pa_nil))))
        (pg_tup rfl (pgs_cons (pg_tup rfl (pgs_cons (pg_name (i := 2) nd rfl (Or.inl rfl)) (pgs_cons (pg_name (i := 3) nd rfl (Or.inl rfl)) pgs_nil))) (pgs_cons (pg_tup rfl (pgs_cons (pg_name (i := 4) nd rfl (Or.inl rfl)) (pgs_cons (pg_name (i := 5) nd rfl (Or.inl rfl)) pgs_nil))) (pgs_cons (pg_name (i := 6) nd rfl (Or.inl rfl)) pgs_nil)))))
      (pss_cons (ps_par3 (i := 7) (j := 8) (l := 9) (by rfl) nd rfl rfl rfl (by decide) (by decide) (by decide) rfl rfl rfl (pa_cons (pe_cl OM.ok hr (pa_cons (pv 1) (pa_cons (pe_tup (pa_cons (pv 2) (pa_cons (pv 3) pa_nil))) pa_nil))) (pa_cons (pe_cl OTP.ok hr (pa_cons (pv 1) (pa_cons (pe_tup (pa_cons (pv 4) (pa_cons (pv 5) pa_nil))) pa_nil))) (pa_cons (pe_cl OSt.ok hr (pa_cons (pv 1) (pa_cons (pv 6) pa_nil))) pa_nil))) (by rfl))
      (pss_cons (ps_if (PW.pt (pw_or (pt_cmpR (op_neIns FE he hfe bE pass0 PE.ne PC.hmr (hr.mono (by decide))) (pe_clw OM hr (pk_cons (pe_lst (pa_cons (pv 2) (pa_cons (pv 3) pa_nil))) (pk_cons (pv 1) pk_nil))) (pv 7) (nomark _))
          (pw_or (pt_cmpR (op_neIns FE he hfe bE pass0 PE.ne PC.hmr (hr.mono (by decide))) (pe_clw OTP hr (pk_cons (pe_lst (pa_cons (pv 4) (pa_cons (pv 5) pa_nil))) (pk_cons (pv 1) pk_nil))) (pv 8) (nomark _))
          (pw_or1 (pt_cmpR (op_neIns FE he hfe bE pass0 PE.ne PC.hmr (hr.mono (by decide))) (pe_clw OSt hr (pk_cons (pv 6) (pk_cons (pv 1) pk_nil))) (pv 9) (nomark _)))))) (pss_one (ps_ret pe_bl)) pss_nil)
      (pss_cons (ps_for PassesOwn.never rfl (pi_range1 (by rfl) gr (pa_cons pe_int pa_nil)) (pg_name (i := 10) nd rfl (Or.inl rfl))
        (pss_cons (ps_asg (pe_cl OPt hr (pa_cons (pv 0) pa_nil)) (pg_tup rfl (pgs_cons (pg_name (i := 11) nd rfl (Or.inl rfl)) (pgs_cons (pg_name (i := 12) nd rfl (Or.inl rfl)) pgs_nil))))
        (pss_cons (ps_par (i := 13) (j := 14) (by rfl) nd rfl rfl (by decide) rfl rfl (pa_cons (pe_callB (call_reprD gd hr.units) (by rfl) gp (by decide +kernel) (pa_cons (pe_cl OW hr (pa_cons (pe_cl OD hr (pa_cons (pv 1) pa_nil)) (pa_cons (pe_tup (pa_cons (pv 11) (pa_cons (pv 12) pa_nil))) pa_nil))) pa_nil))
          (pa_cons (pe_lst (pa_cons (pe_tup (pa_cons (pe_cl OPl hr (pa_cons (pv 11) (pa_cons (pv 2) pa_nil))) (pa_cons (pe_cl OPl hr (pa_cons (pv 12) (pa_cons (pv 3) pa_nil))) pa_nil))) pa_nil)) pa_nil)) (by rfl))
        (pss_cons (ps_expr (pe_bm PySem.F.plainAttrs_list PySem.F.slot_list_append PySem.F.type_list_append mt_append (pv 14) (pa_cons (pe_tup (pa_cons (pe_cl OPl hr (pa_cons (pe_cl OT hr (pa_cons (pv 4) (pa_cons (pv 11) pa_nil))) (pa_cons (pe_cl OT hr (pa_cons (pe_un un_neg pe_int) (pa_cons (pe_cl OT hr (pa_cons (pv 5) (pa_cons (pv 12) pa_nil))) pa_nil))) pa_nil)))
            (pa_cons (pe_cl OPl hr (pa_cons (pe_cl OT hr (pa_cons (pv 5) (pa_cons (pv 11) pa_nil))) (pa_cons (pe_cl OT hr (pa_cons (pv 4) (pa_cons (pv 12) pa_nil))) pa_nil))) pa_nil))) pa_nil)))
        (pss_cons (ps_expr (pe_bm PySem.F.plainAttrs_list PySem.F.slot_list_append PySem.F.type_list_append mt_append (pv 14) (pa_cons (pe_tup (pa_cons (pe_cl OT hr (pa_cons (pv 6) (pa_cons (pv 11) pa_nil))) (pa_cons (pe_cl OT hr (pa_cons (pv 6) (pa_cons (pv 12) pa_nil))) pa_nil))) pa_nil)))
        (pss_one (ps_if (pt_cmpR (op_neD hr.units) (pe_lc (own := [("_law_made", 18), ("_law_point_here", 19)]) (g := gTup K 2 (gCons (gName 18) (gCons (gName 19) gNil))) (tt := tYes) (te := tCB (fun xs H Q => ∃ v d, xs = [v] ∧ ((∃ i, v = .int i) ∨ ∃ a, v = .ref a) ∧ Dp K H v d ∧ d.showable = true ∧ d.hasDict = false ∧ d.depth ≤ 20 ∧ d.shown.length ≤ sizeLine ∧ Q (.str d.shown) H) (tCons (tCall spWorth [] E0 (tCons (tCall (spLawDict C) [] E0 (tCons (tVar 18) tNil)) (tCons (tVar 19) tNil))) tNil)) rfl nd
            (pi_zip (by rfl) gz (pa_cons (pe_lst (pa_cons (pv 7) (pa_cons (pv 8) (pa_cons (pv 9) pa_nil)))) (pa_cons (pv 14) pa_nil))) (blkOk_by (N := ["_law_lathe_here", "_law_poly_here", "_law_across", "_law_up", "_law_c", "_law_s", "_law_number", "_law_gone", "_law_bent", "_law_wide", "_law_turn_here", "_law_x", "_law_y", "_law_due", "_law_told", "_law_above", "_law_under", "_law_back", "_law_made", "_law_point_here"]) (sc := defScope (top 70)) (by decide +kernel))
            (fun _ _ _ _ _ => pg_tup rfl (pgs_cons (pg_name (i := 18) nd rfl (Or.inl rfl)) (pgs_cons (pg_name (i := 19) nd rfl (Or.inl rfl)) pgs_nil))) (fun _ _ _ _ _ => pts_nil)
            (fun _ _ _ _ _ => pe_callB (call_reprD gd hr.units) (by rfl) gp (by decide +kernel) (pa_cons (pe_cl OW hr (pa_cons (pe_cl OD hr (pa_cons (pv 18) pa_nil)) (pa_cons (pv 19) pa_nil))) pa_nil))) (pe_op op_rep (pe_lst (pa_cons (pv 13) pa_nil)) pe_int) (nomark _)) (pss_one (ps_ret pe_bl)) pss_nil)))))))
      (pss_cons (ps_asg (pe_cl OB hr (pa_cons (pv 6) pa_nil)) (pg_tup rfl (pgs_cons (pg_name (i := 15) nd rfl (Or.inl rfl)) (pgs_cons (pg_name (i := 16) nd rfl (Or.inl rfl)) pgs_nil))))
      (pss_cons (ps_set (i := 17) nd rfl (Or.inl rfl) (pe_lst (pa_cons (pe_cl OM.ok hr (pa_cons (pv 7) (pa_cons (pe_tup (pa_cons (pe_cl OT hr (pa_cons (pe_un un_neg pe_int) (pa_cons (pv 2) pa_nil))) (pa_cons (pe_cl OT hr (pa_cons (pe_un un_neg pe_int) (pa_cons (pv 3) pa_nil))) pa_nil))) pa_nil)))
          (pa_cons (pe_cl OTP.ok hr (pa_cons (pv 8) (pa_cons (pe_tup (pa_cons (pv 4) (pa_cons (pe_cl OT hr (pa_cons (pe_un un_neg pe_int) (pa_cons (pv 5) pa_nil))) pa_nil))) pa_nil)))
          (pa_cons (pe_cl OSt.ok hr (pa_cons (pv 9) (pa_cons (pe_cl OL hr (pa_cons (pv 16) (pa_cons (pv 15) pa_nil))) pa_nil))) pa_nil)))))
      (pss_one (ps_ret (pe_cmpR (op_eqG (rcG_list (mon_ins sameP_mon) (eqG_ins FE he hfe bE pass0)) (hr.mono (by decide))) (pv 17) (pe_op op_rep (pe_lst (pa_cons (pv 1) pa_nil)) pe_int) (nomark _))))))))), ?_⟩
    refine ⟨_, rfl, a, t, rfl, hl, by omega, fun H1 pt A B k1 l1 hpt bA bB => ?_⟩
    refine ⟨_, rfl, a, _, rfl, l1, by omega, fun H2 tv c s D k2' l2 htv tp tb => ?_⟩
    refine ⟨_, rfl, 1, rfl, s2, fun p1 n1 => ?_⟩
    have e1 : (upd H2 p1 (.tup [.int 1, .int 3])) p1 = some (.tup [.int 1, .int 3]) := upd_same
    have sA : Same H2 (upd H2 p1 (.tup [.int 1, .int 3])) := same_upd n1
    generalize upd H2 p1 (.tup [.int 1, .int 3]) = Ha at e1 sA
    refine ⟨5, rfl, s2, fun p2 n2 => ?_⟩
    have e2 : (upd Ha p2 (.tup [.int (-5), .int 2])) p2 = some (.tup [.int (-5), .int 2]) := upd_same
    have sB : Same Ha (upd Ha p2 (.tup [.int (-5), .int 2])) := same_upd n2
    generalize upd Ha p2 (.tup [.int (-5), .int 2]) = Hb at e2 sB
    refine ⟨_, _, rfl, rfl, ⟨by decide, by decide, by decide⟩, Nat.le_trans (show 6 ≤ 1000 by decide) (sz (Nat.le_refl _)), fun L nL => ?_⟩
    have lb := l2.same (sA.trans sB)
    dsimp only at nL ⊢
    have sC : Same Hb (upd Hb L (.lst [.int 2, .int (-1), .ref p1, .ref p2, .int (10 ^ (12 : Int).toNat), .int 1])) := same_upd nL
    have eL : (upd Hb L (.lst [.int 2, .int (-1), .ref p1, .ref p2, .int (10 ^ (12 : Int).toNat), .int 1])) L = some (.lst [.int 2, .int (-1), .ref p1, .ref p2, .int (10 ^ (12 : Int).toNat), .int 1]) := upd_same
    have lc := lb.same sC
    refine ⟨a, _, L, _, rfl, lc, by omega, lb.fresh nL, eL, (show 1 ≤ 6 by decide), (show 6 ≤ 1000 by decide), fun H3 k x k3 l3 ex => ?_⟩
    have s2c := (sA.trans sB).trans sC
    obtain ⟨r, mr, hr0⟩ := num_menu (sC _ _ (sB _ _ e1)) (sC _ _ e2) ex
    have hr3 : NumV H3 x r := hr0.kpl lc k3
    obtain ⟨E', nb⟩ := nmenu_ok r mr
    have k13 : Kp a H1 H3 := k2'.trans ((Kp.of s2c).trans k3)
    have hpt3 : PtV H3 pt A B := hpt.kp l1.noT k13
    have htv3 : PtV H3 tv c s := (htv.same s2c).kp lc.noT k3
    have hf3 : PolyV C H3 v f := hv.kpl hl (k1.trans k13)
    have kp3 := k1.trans k13
    clear hr0 eL sC nL lc lb e1 e2 sA sB k2' k3 hpt htv k13 s2c n1 n2
    refine ⟨s3, fun pp np => ?_⟩
    have s34 : Same H3 (upd H3 pp (.tup [pt, tv, x])) := same_upd np
    have hpp : (upd H3 pp (.tup [pt, tv, x])) pp = some (.tup [pt, tv, x]) := upd_same
    generalize upd H3 pp (.tup [pt, tv, x]) = H4 at s34 hpp
    have hf4 := hf3.same s34
    have hr4 := hr3.same s34
    have l4 := l3.same s34
    have kp4 := kp3.trans (Kp.of (D := a) s34)
    obtain ⟨q1, va, vb, rfl, h1, ha, hb⟩ := hpt3.same s34
    obtain ⟨q2, vc, vs, rfl, h2, hc, hs⟩ := htv3.same s34
    refine ⟨pp, _, rfl, tupAt hpp, rfl, _, _, rfl, q1, _, rfl, tupAt h1, rfl, _, _, rfl, _, _, rfl, rfl, _, _, rfl, q2, _, rfl, tupAt h2, rfl, _, _, rfl, _, _, rfl, rfl, _, _, rfl, rfl, ?_⟩
    clear h1 h2 hpp hpt3 htv3 hf3 hr3 l3 kp3 s34 np
    obtain ⟨G, eG, pG, vG, pG2, bG⟩ := led_move df bA bB
    obtain ⟨Tn, eT, pT, vT, tp2, pT2, bT⟩ := led_turn df tp tb
    obtain ⟨Wd, eW, pW, nr, vW, ri0, nri, pW2, bW⟩ := led_wide df nb
    refine ⟨_, rfl, _, rfl, _, rfl, s2, fun m1 nm1 => ?_⟩
    have sM := same_upd (o := .tup [va, vb]) nm1
    refine ⟨_, _, f, A, B, rfl, hf4.same sM, ⟨m1, va, vb, rfl, .inl upd_same, ha.same sM, hb.same sM⟩, pG, fun u1 H5 s5 hu1 => ?_⟩
    rw [← eG] at hu1
    have s45 := sM.trans s5
    refine ⟨_, rfl, _, rfl, _, rfl, s2, fun m2' nm2 => ?_⟩
    have sM2 := same_upd (o := .tup [vc, vs]) nm2
    have s4m := s45.trans sM2
    refine ⟨_, _, f, c, s, rfl, hf4.same s4m, ⟨m2', vc, vs, rfl, .inl upd_same, hc.same s4m, hs.same s4m⟩, tp, pT, fun u2 H6 s6 hu2 => ?_⟩
    rw [← eT] at hu2
    have s46 := s4m.trans s6
    have s56 := sM2.trans s6
    refine ⟨_, rfl, _, rfl, _, x, f, r, rfl, hf4.same s46, hr4.same s46, nb.nz, nr, pW, fun u3 H7 s7 hu3 => ⟨_, _, _, rfl, ?_⟩⟩
    rw [← eW] at hu3
    have s47 := s46.trans s7
    have hu1' := (hu1.same s56).same s7
    have hu2' := hu2.same s7
    clear hu1 hu2 s45 s46 s4m s56 s5 s6 s7 sM sM2
    -- the same, called by keywords
    refine ⟨_, rfl, _, rfl, sz (by simp), fun L1 nL1 => ?_⟩
    have sL1 := same_upd (o := .lst [va, vb]) nL1
    have s48 := s47.trans sL1
    refine ⟨_, rfl, rfl, _, _, f, A, B, rfl, hf4.same s48, ⟨L1, va, vb, rfl, .inr upd_same, ha.same s48, hb.same s48⟩, pG, fun w1 H8 s8 hw1 => ?_⟩
    rw [← eG] at hw1
    have s78 := sL1.trans s8
    refine ⟨_, rfl, hw1.both (hu1'.same s78), fun H9 (s9 : Same H8 H9) => ⟨false, rfl, iteF ?_⟩⟩
    have s79 := s78.trans s9
    refine ⟨_, rfl, _, rfl, sz (by simp), fun L2 nL2 => ?_⟩
    have sL2 := same_upd (o := .lst [vc, vs]) nL2
    have s49 := (s47.trans s79).trans sL2
    refine ⟨_, rfl, rfl, _, _, f, c, s, rfl, hf4.same s49, ⟨L2, vc, vs, rfl, .inr upd_same, hc.same s49, hs.same s49⟩, tp, pT, fun w2 H10 s10 hw2 => ?_⟩
    rw [← eT] at hw2
    have s710 := (s79.trans sL2).trans s10
    refine ⟨_, rfl, hw2.both (hu2'.same s710), fun H11 (s11 : Same H10 H11) => ⟨false, rfl, iteF ?_⟩⟩
    have s711 := s710.trans s11
    have s411 := s47.trans s711
    refine ⟨_, rfl, _, rfl, rfl, _, _, f, r, rfl, hf4.same s411, hr4.same s411, nb.nz, nr, pW, fun w3 H12 s12 hw3 => ?_⟩
    rw [← eW] at hw3
    have s712 := s711.trans s12
    refine ⟨_, rfl, hw3.both (hu3.same s712), fun H13 (s13 : Same H12 H13) => ⟨false, rfl, iteF ?_⟩⟩
    have s713 := s712.trans s13
    have s413 := s47.trans s713
    dsimp only [tNext]
    have hf := hf4.same s413
    have hx := hr4.same s413
    have ha := ha.same s413
    have hb := hb.same s413
    have hc := hc.same s413
    have hs := hs.same s413
    have hG := hu1'.same s713
    have hT := hu2'.same s713
    have hW := hu3.same s713
    have lT := (l4.same s413).mono (t' := t + 11) (by omega)
    have kp13 := kp4.trans (Kp.of (D := a) s413)
    clear hf4 hr4 hu1' hu2' hu3 hw1 hw2 hw3 s47 s48 s49 s78 s79 s710 s711 s712 s411 s713 s413 sL1 sL2 s8 s9 s10 s11 s12 s13 l4 kp4
    refine ⟨3, rfl, by decide, by decide, ?_⟩
    refine for_range (lo := 0) (n := 3) (fun k σ H' => ∃ o10 o11 o12 o13 o14, σ = [some (.ref a), some v, some va, some vb, some vc, some vs, some x, some u1, some u2, some u3, o10, o11, o12, o13, o14, none, none, none, none, none] ∧ Kp a H13 H' ∧ LatheV H' a (t + 11 + 8 * k)) ⟨_, _, _, _, _, rfl, Kp.of (Same.refl H13), lT⟩ (fun k σ H14 lt p => ?_) (fun σ H14 p => ?_)
    · obtain ⟨o10, o11, o12, o13, o14, rfl, k14, l14⟩ := p
      refine ⟨_, rfl, a, _, rfl, l14, by omega, fun H15 pt x' y k15 l15 hp bx by_ => ?_⟩
      have kk := k14.trans k15
      have hf := hf.kpl lT kk
      have hx := hx.kpl lT kk
      have ha := ha.kpl lT kk
      have hb := hb.kpl lT kk
      have hc := hc.kpl lT kk
      have hs := hs.kpl lT kk
      have hG := hG.kpl lT kk
      have hT := hT.kpl lT kk
      have hW := hW.kpl lT kk
      have bp : BPt x' y := ⟨bx, by_⟩
      obtain ⟨vG1, vG2⟩ := vG x' y bp
      obtain ⟨vT1, vT2, nT1, nT2, nT3, nT4, nT5⟩ := vT x' y bp
      obtain ⟨vW1, vW2⟩ := vW x' y bp
      have nx : NB 4000 x' := bx.nb (by decide +kernel) (by decide +kernel)
      have ny : NB 4000 y := by_.nb (by decide +kernel) (by decide +kernel)
      have nA : NB 4000 A := bA.nb (by decide +kernel) (by decide +kernel)
      have nB : NB 4000 B := bB.nb (by decide +kernel) (by decide +kernel)
      have nc := nbs tp.1
      have ns := nbs tp.2.1
      obtain ⟨qp, vx, vy, rfl, h1, hvx, hvy⟩ := hp
      have rep := numD_rep ((ib_small df.small bp).nb (n := 1900) (by decide +kernel) (by decide +kernel))
      have sok := numD_str (ev f x' y)
      refine ⟨qp, _, rfl, tupAt h1, rfl, _, _, rfl, _, _, rfl, rfl, ?_⟩
      refine ⟨_, rfl, v, f, rfl, hf, fun H16 D1 s16 e1 => ⟨_, rfl, _, rfl, s2, fun m1 nm1 => ?_⟩⟩
      have sM := same_upd (o := .tup [vx, vy]) nm1
      have s15m := s16.trans sM
      refine ⟨D1, _, f, x', y, rfl, e1.same sM, ⟨m1, vx, vy, rfl, upd_same, hvx.same s15m, hvy.same s15m⟩, val_small df.small bp, fun r0 H17 s17' h0 => ?_⟩
      have s1517 := s15m.trans s17'
      refine ⟨r0, _, rfl, h0.kind, h0.dp, rep.sh, rep.nd, rep.dp, rep.ln, ?_⟩
      refine ⟨_, rfl, _, rfl, vx, va, x', A, rfl, hvx.same s1517, ha.same s1517, nx, nA, True.intro, fun z1 H18 s18 hz1 => ?_⟩
      have s1518 := s1517.trans s18
      refine ⟨_, rfl, _, rfl, vy, vb, y, B, rfl, hvy.same s1518, hb.same s1518, ny, nB, True.intro, fun z2 H19 s19 hz2 => ⟨s2, fun m2' nm2 => ?_⟩⟩
      have sM2 := same_upd (o := .tup [z1, z2]) nm2
      have hp1 : PtV (upd H19 m2' (.tup [z1, z2])) (.ref m2') (x' + A) (y + B) := ⟨m2', z1, z2, rfl, upd_same, (hz1.same s19).same sM2, hz2.same sM2⟩
      have s1520 := (s1518.trans s19).trans sM2
      generalize upd H19 m2' (.tup [z1, z2]) = H20 at sM2 hp1 s1520
      refine ⟨sz (by simp), fun TL nTL => ⟨_, _, rfl, ?_⟩⟩
      have sT := same_upd (o := .lst [.ref m2']) nTL
      have hTL : (upd H20 TL (.lst [.ref m2'])) TL = some (.lst [.ref m2']) := upd_same
      have nTL15 : H15 TL = none := s1520.free nTL
      have hp1 := hp1.same sT
      have s1521 := s1520.trans sT
      generalize upd H20 TL (.lst [.ref m2']) = H21 at sT hTL hp1 s1521
      -- the second
      refine ⟨_, rfl, .inl ⟨rfl, _, lstAt hTL⟩, ?_⟩
      refine ⟨_, rfl, _, rfl, vc, vx, c, x', rfl, hc.same s1521, hvx.same s1521, nc, nx, True.intro, fun t1 H22 s22 ht1 => ?_⟩
      have s1522 := s1521.trans s22
      refine ⟨1, rfl, _, rfl, _, rfl, vs, vy, s, y, rfl, hs.same s1522, hvy.same s1522, ns, ny, True.intro, fun t2 H23 s23 ht2 => ?_⟩
      have s1523 := s1522.trans s23
      refine ⟨_, t2, -1, s * y, rfl, num_int H23 (-1), ht2, ⟨by decide +kernel, by decide +kernel⟩, nT2, True.intro, fun t3 H24 s24 ht3 => ?_⟩
      have s1524 := s1523.trans s24
      refine ⟨t1, t3, c * x', -1 * (s * y), rfl, (ht1.same s23).same s24, ht3, nT1, nT3, True.intro, fun t4' H25 s25 ht4 => ?_⟩
      have s1525 := s1524.trans s25
      refine ⟨_, rfl, _, rfl, vs, vx, s, x', rfl, hs.same s1525, hvx.same s1525, ns, nx, True.intro, fun t5 H26 s26 ht5 => ?_⟩
      have s1526 := s1525.trans s26
      refine ⟨_, rfl, _, rfl, vc, vy, c, y, rfl, hc.same s1526, hvy.same s1526, nc, ny, True.intro, fun t6 H27 s27 ht6 => ?_⟩
      have s1527 := s1526.trans s27
      refine ⟨t5, t6, s * x', c * y, rfl, ht5.same s27, ht6, nT4, nT5, True.intro, fun t7 H28 s28 ht7 => ⟨s2, fun m3 nm3 => ?_⟩⟩
      have sM3 := same_upd (o := .tup [t4', t7]) nm3
      have s2529 := ((s26.trans s27).trans s28).trans sM3
      have s2129 := (((s22.trans s23).trans s24).trans s25).trans s2529
      have hp2 : PtV (upd H28 m3 (.tup [t4', t7])) (.ref m3) (c * x' + -1 * (s * y)) (s * x' + c * y) := ⟨m3, t4', t7, rfl, upd_same, ht4.same s2529, ht7.same sM3⟩
      have s1529 := s1525.trans s2529
      generalize upd H28 m3 (.tup [t4', t7]) = H29 at sM3 hp2 s2529 s2129 s1529
      have hTL9 := s2129 _ _ hTL
      refine ⟨TL, _, _, rfl, rfl, hTL9, Nat.lt_of_lt_of_le (show 1 < 2 by decide) s2, ?_⟩
      have kT : Kp TL H29 (upd H29 TL (.lst ([.ref m2'] ++ [.ref m3]))) := Kp.upd _
      have hTL2 : (upd H29 TL (.lst ([.ref m2'] ++ [.ref m3]))) TL = some (.lst [.ref m2', .ref m3]) := upd_same
      have hp1 := (hp1.same s2129).kp (lst_notD hTL9) kT
      have hp2 := hp2.kp (lst_notD hTL9) kT
      have s1530 := sov s1529 (o := .lst ([.ref m2'] ++ [.ref m3])) nTL15
      generalize upd H29 TL (.lst ([.ref m2'] ++ [.ref m3])) = H30 at kT hTL2 hp1 hp2 s1530
      -- the third
      refine ⟨_, rfl, .inl ⟨rfl, _, lstAt hTL2⟩, ?_⟩
      refine ⟨_, rfl, _, rfl, x, vx, r, x', rfl, hx.same s1530, hvx.same s1530, nr, nx, True.intro, fun t8 H31 s31 ht8 => ?_⟩
      have s1531 := s1530.trans s31
      refine ⟨_, rfl, _, rfl, x, vy, r, y, rfl, hx.same s1531, hvy.same s1531, nr, ny, True.intro, fun t9 H32 s32 ht9 => ⟨s2, fun m4 nm4 => ?_⟩⟩
      have sM4 := same_upd (o := .tup [t8, t9]) nm4
      have s3033 := (s31.trans s32).trans sM4
      have s1533 := s1530.trans s3033
      have hp3 : PtV (upd H32 m4 (.tup [t8, t9])) (.ref m4) (r * x') (r * y) := ⟨m4, t8, t9, rfl, upd_same, (ht8.same s32).same sM4, ht9.same sM4⟩
      generalize upd H32 m4 (.tup [t8, t9]) = H33 at sM4 hp3 s3033 s1533
      have hTL3 := s3033 _ _ hTL2
      refine ⟨TL, _, _, rfl, rfl, hTL3, Nat.lt_of_lt_of_le (show 2 < 3 by decide) s3, ?_⟩
      have kT : Kp TL H33 (upd H33 TL (.lst ([.ref m2', .ref m3] ++ [.ref m4]))) := Kp.upd _
      have hTL4 : (upd H33 TL (.lst ([.ref m2', .ref m3] ++ [.ref m4]))) TL = some (.lst [.ref m2', .ref m3, .ref m4]) := upd_same
      have hp1 := (hp1.same s3033).kp (lst_notD hTL3) kT
      have hp2 := (hp2.same s3033).kp (lst_notD hTL3) kT
      have hp3 := hp3.kp (lst_notD hTL3) kT
      have s1534 := sov s1533 (o := .lst ([.ref m2', .ref m3] ++ [.ref m4])) nTL15
      generalize upd H33 TL (.lst ([.ref m2', .ref m3] ++ [.ref m4])) = H34 at kT hTL4 hp1 hp2 hp3 s1534
      -- all three shown
      refine ⟨_, rfl, _, rfl, _, rfl, sz (by simp), fun ML nML => ⟨_, rfl, ML, TL, [u1, u2, u3], [.ref m2', .ref m3, .ref m4], rfl, ?_⟩⟩
      have sML := same_upd (o := .lst [u1, u2, u3]) nML
      have hML : (upd H34 ML (.lst [u1, u2, u3])) ML = some (.lst [u1, u2, u3]) := upd_same
      have hTL5 := sML _ _ hTL4
      have hp1 := hp1.same sML
      have hp2 := hp2.same sML
      have hp3 := hp3.same sML
      have s1535 := s1534.trans sML
      generalize upd H34 ML (.lst [u1, u2, u3]) = H35 at sML hML hTL5 hp1 hp2 hp3 s1535
      have hG := hG.same s1535
      have hT := hT.same s1535
      have hW := hW.same s1535
      refine ⟨lstAt hML, lstAt hTL5, fun LD nLD => ?_⟩
      refine lc_zipL (xs := [u1, u2, u3]) (ys := [.ref m2', .ref m3, .ref m4]) rfl (fun i H' => Same H35 H' ∧ H' LD = some (.lst (List.replicate i (.str (numD (ev f x' y)).shown)))) ⟨same_upd nLD, upd_same⟩ (fun i H' p => ⟨lstAt (p.1 _ _ hML), lstAt (p.1 _ _ hTL5)⟩) (fun i z w Tt H36 ez ew nTt p => ?_) (fun H36 p => ?_)
      · have item : ∃ F X Y, PolyV C H36 z F ∧ PtV H36 w X Y ∧ Val F X Y ∧ ev F X Y = ev f x' y ∧ i < 3 := by
          rcases three_get ez with ⟨rfl, rfl⟩ | ⟨rfl, rfl⟩ | ⟨rfl, rfl⟩
          · obtain rfl := Option.some.inj ew
            exact ⟨G, _, _, hG.same p.1, hp1.same p.1, vG1, vG2, by decide⟩
          · obtain rfl := Option.some.inj ew
            exact ⟨Tn, _, _, hT.same p.1, hp2.same p.1, vT1, vT2, by decide⟩
          · obtain rfl := Option.some.inj ew
            exact ⟨Wd, _, _, hW.same p.1, hp3.same p.1, vW1, vW2, by decide⟩
        obtain ⟨F, X', Y', hz, hw, vF, eF, i3⟩ := item
        have sT := same_upd (o := .tup [z, w]) nTt
        refine ⟨Tt, _, rfl, tupAt upd_same, rfl, _, _, rfl, _, _, rfl, rfl, rfl, ?_⟩
        refine ⟨_, rfl, z, F, rfl, hz.same sT, fun H37 D2 s37 e2 => ⟨_, rfl, D2, w, F, X', Y', rfl, e2, (hw.same sT).same s37, vF, fun r1 H38 s38 h1 => ?_⟩⟩
        rw [eF] at h1
        have s3638 := (sT.trans s37).trans s38
        refine ⟨r1, _, rfl, h1.kind, h1.dp, rep.sh, rep.nd, rep.dp, rep.ln, _, s3638 _ _ p.2, ?_, sov (p.1.trans s3638) nLD, ?_⟩
        · rw [List.length_replicate]
          exact Nat.lt_of_lt_of_le i3 s3
        · rw [upd_same, List.replicate_succ']
      · refine ⟨_, rfl, sz (by simp), fun DL nDL => ⟨DL, 3, _, rfl, rfl, upd_same, by decide, by decide, sz (by simp), fun RL nRL => ?_⟩⟩
        have sD := same_upd (o := .lst [.str (numD (ev f x' y)).shown]) nDL
        have sR := same_upd (o := .lst (List.replicate (3 : Int).toNat [V.str (numD (ev f x' y)).shown]).flatten) nRL
        have hRL : (upd (upd H36 DL (.lst [.str (numD (ev f x' y)).shown])) RL (.lst (List.replicate (3 : Int).toNat [V.str (numD (ev f x' y)).shown]).flatten)) RL = some (.lst (List.replicate 3 (.str (numD (ev f x' y)).shown))) := upd_same
        refine ⟨_, _, .lst (lstAt (sR _ _ (sD _ _ p.2))) (strs_dp 3), .lst (lstAt hRL) (strs_dp 3), strs_shaped sok, strs_shaped sok, _, rfl, ?_⟩
        rw [SeqAt.eqv_refl]
        · refine iteF ?_
          have s15F := ((s1535.trans p.1).trans sD).trans sR
          exact ⟨_, _, _, _, _, rfl, kk.trans (Kp.of s15F), (l15.same s15F).mono (by omega)⟩
        · exact SeqAt.canLay_of_shaped (strs_shaped sok)
    · obtain ⟨o10, o11, o12, o13, o14, rfl, k14, l14⟩ := p
      have hf := hf.kpl lT k14
      have hx := hx.kpl lT k14
      have ha := ha.kpl lT k14
      have hb := hb.kpl lT k14
      have hc := hc.kpl lT k14
      have hs := hs.kpl lT k14
      have hG := hG.kpl lT k14
      have hT := hT.kpl lT k14
      have hW := hW.kpl lT k14
      have kp14 := kp13.trans k14
      have nA : NB 4000 A := bA.nb (by decide +kernel) (by decide +kernel)
      have nB : NB 4000 B := bB.nb (by decide +kernel) (by decide +kernel)
      have ns := nbs tp.2.1
      have n1 : NB 4000 (-1) := ⟨by decide +kernel, by decide +kernel⟩
      refine ⟨_, rfl, x, r, rfl, hx, fun H15 hp s15 ehp => ⟨hp, _, rfl, tupAt ehp, rfl, _, _, rfl, _, _, rfl, rfl, ?_⟩⟩
      refine ⟨_, rfl, 1, rfl, _, rfl, _, va, -1, A, rfl, num_int H15 (-1), ha.same s15, n1, nA, True.intro, fun z1 H16 s16 hz1 => ?_⟩
      have s1416 := s15.trans s16
      refine ⟨1, rfl, _, rfl, _, vb, -1, B, rfl, num_int H16 (-1), hb.same s1416, n1, nB, True.intro, fun z2 H17 s17' hz2 => ⟨s2, fun m1 nm1 => ?_⟩⟩
      have sM := same_upd (o := .tup [z1, z2]) nm1
      have s1418 := (s1416.trans s17').trans sM
      refine ⟨u1, _, G, -1 * A, -1 * B, rfl, hG.same s1418, ⟨m1, z1, z2, rfl, .inl upd_same, (hz1.same s17').same sM, hz2.same sM⟩, pG2, fun b1 H18 s18 hb1 => ?_⟩
      rw [bG] at hb1
      have s1419 := s1418.trans s18
      refine ⟨_, rfl, _, rfl, 1, rfl, _, rfl, _, vs, -1, s, rfl, num_int H18 (-1), hs.same s1419, n1, ns, True.intro, fun z3 H19 s19 hz3 => ⟨s2, fun m2' nm2 => ?_⟩⟩
      have sM2 := same_upd (o := .tup [vc, z3]) nm2
      have s1820 := s19.trans sM2
      have s1420 := s1419.trans s1820
      refine ⟨u2, _, Tn, c, -1 * s, rfl, hT.same s1420, ⟨m2', vc, z3, rfl, .inl upd_same, hc.same s1420, hz3.same sM2⟩, tp2, pT2, fun b2 H20 s20 hb2 => ?_⟩
      rw [bT] at hb2
      have s1421 := s1420.trans s20
      refine ⟨_, rfl, _, rfl, _, rfl, (r.den : Int), r.num, rfl, ⟨num_ne nb.nz, Nat.lt_trans nr.num (by decide +kernel)⟩, fun z4 H21 s21 hz4 => ?_⟩
      rw [inv_eq nb.nz] at hz4
      have s1422 := s1421.trans s21
      refine ⟨u3, z4, Wd, 1 / r, rfl, hW.same s1422, hz4, ri0, nri, pW2, fun b3 H22 s22 hb3 => ⟨sz (by simp), fun BL nBL => ?_⟩⟩
      rw [bW] at hb3
      have s1423 := s1422.trans s22
      have hb2' := (hb2.same s21).same s22
      have hb1' := ((hb1.same s1820).same (s20.trans s21)).same s22
      have sB := same_upd (o := .lst [b1, b2, b3]) nBL
      have hBL : (upd H22 BL (.lst [b1, b2, b3])) BL = some (.lst [b1, b2, b3]) := upd_same
      generalize upd H22 BL (.lst [b1, b2, b3]) = H23 at sB hBL
      refine ⟨_, rfl, _, rfl, sz (by simp), fun PL nPL => ⟨PL, 3, _, rfl, rfl, upd_same, by decide, by decide, sz (by simp), fun RL nRL => ?_⟩⟩
      have sP := same_upd (o := .lst [v]) nPL
      have sR := same_upd (o := .lst (List.replicate (3 : Int).toNat [v]).flatten) nRL
      have hRL : (upd (upd H23 PL (.lst [v])) RL (.lst (List.replicate (3 : Int).toNat [v]).flatten)) RL = some (.lst [v, v, v]) := upd_same
      have s2225 := (sB.trans sP).trans sR
      have hf25 := hf.same (s1423.trans s2225)
      refine ⟨⟨BL, RL, _, _, rfl, rfl, sR _ _ (sP _ _ hBL), hRL, .cons ((hb1'.same s2225).both hf25) (.cons ((hb2'.same s2225).both hf25) (.cons ((hb3.same s2225).both hf25) .nil))⟩, fun H26 (s26 : Same _ H26) => ?_⟩
      have sF : Same H14 H26 := (s1423.trans s2225).trans s26
      exact q H26 (kp14.trans (Kp.of sF)) ((l14.same sF).mono (by omega))
end
end Kd

namespace Kd
open PySem PySem.Spec PyProof.Rows L2 Pk
section
variable {P : Program} {w : World} {K : PySem.W.Frag} {mg : Str → Option Value} {base : Heap} {C : Addr}
def spLaw (K : PySem.W.Frag) : Sp := fun vs H Q _ => ∃ (a : Addr) (ns : List Int), vs = [.ref a] ∧ SqL K H a (ns.map V.int) ∧ ns.length ≤ 63 ∧ ∀ H', Q (.bl true) H'
theorem pick5 {k : Nat} {x : V} (e : [V.int 2, .int 3, .int 1, .int 4, .int 6][k]? = some x) : ∃ d : Nat, x = .int (d : Int) ∧ d ≤ 6 := by
  rcases k with _ | _ | _ | _ | _ | k
  · exact ⟨2, (Option.some.inj e).symm, by decide⟩
  · exact ⟨3, (Option.some.inj e).symm, by decide⟩
  · exact ⟨1, (Option.some.inj e).symm, by decide⟩
  · exact ⟨4, (Option.some.inj e).symm, by decide⟩
  · exact ⟨6, (Option.some.inj e).symm, by decide⟩
  · simp at e
theorem pick4 {k : Nat} {x : V} (e : [V.int 3, .int 1, .int 5, .int 0][k]? = some x) : ∃ d : Nat, x = .int (d : Int) ∧ d ≤ 5 := by
  rcases k with _ | _ | _ | _ | k
  · exact ⟨3, (Option.some.inj e).symm, by decide⟩
  · exact ⟨1, (Option.some.inj e).symm, by decide⟩
  · exact ⟨5, (Option.some.inj e).symm, by decide⟩
  · exact ⟨0, (Option.some.inj e).symm, by decide⟩
  · simp at e
theorem ok_law {fL : Addr} {fdL : FuncData} (FL : FunD K "law" "law" (defArgs (top 71)) (defBody (top 71)) (defScope (top 71)) [] [] fL fdL) (gr : mg "range" = none) (OLa : Okk P w K mg base "_law_lathe" 1 ["_law_script"] (spLathe K)) (OO : Okk P w K mg base "_law_one_of" 2 ["_law_lathe_here", "_law_some_here"] spOneOf)
    (OP : Okk P w K mg base "_law_poly" 7 ["_law_lathe_here", "_law_degree", "_law_many"] (spLawPoly C)) (O1 : Okg P w K mg base "_law_slope_right" 12 ["_law_lathe_here", "_law_poly_here"] (spSlopeRight C)) (O2 : Okg P w K mg base "_law_put_right" 12 ["_law_lathe_here"] spPutRight)
    (O3 : Okg P w K mg base "_law_led_right" 12 ["_law_lathe_here", "_law_poly_here"] (spLedRight C)) : FnG P w K mg base 13 fL fdL ["_law_script"] (spLaw K) := by
  refine fng FL sc_law (fun vs H Q E h => ?_) (fun cdv A outer s H vs Q E gd hr h => ?_)
  · obtain ⟨a, ns, rfl, _⟩ := h
    rfl
  · obtain ⟨sc, ns, rfl, hS, n63, q⟩ := h
    have nd := sc_law.nd
    refine ⟨_, pss_cons (ps_set (i := 1) nd rfl (Or.inl rfl) (pe_cl OLa hr (pa_cons (pv 0) pa_nil)))
      (pss_cons (ps_for PassesOwn.never rfl (pi_range1 (by rfl) gr (pa_cons pe_int pa_nil)) (pg_name (i := 2) nd rfl (Or.inl rfl))
        (pss_cons (ps_set (i := 3) nd rfl (Or.inl rfl) (pe_cl OP hr (pa_cons (pv 1) (pa_cons (pe_cl OO hr (pa_cons (pv 1) (pa_cons (pe_lst (pa_cons pe_int (pa_cons pe_int (pa_cons pe_int (pa_cons pe_int (pa_cons pe_int pa_nil)))))) pa_nil)))
          (pa_cons (pe_cl OO hr (pa_cons (pv 1) (pa_cons (pe_lst (pa_cons pe_int (pa_cons pe_int (pa_cons pe_int (pa_cons pe_int pa_nil))))) pa_nil))) pa_nil)))))
        (pss_one (ps_if (PW.pt (pw_or (pt_not (pt_val (pe_clg O1 gd hr (pa_cons (pv 1) (pa_cons (pv 3) pa_nil))))) (pw_or (pt_not (pt_val (pe_clg O2 gd hr (pa_cons (pv 1) pa_nil)))) (pw_or1 (pt_not (pt_val (pe_clg O3 gd hr (pa_cons (pv 1) (pa_cons (pv 3) pa_nil)))))))))
          (pss_one (ps_ret pe_bl)) pss_nil))))
      (pss_one (ps_ret pe_bl))), ?_⟩
    refine ⟨_, rfl, sc, ns, rfl, hS, n63, fun H1 a s1 l1 => ?_⟩
    refine ⟨2, rfl, by decide, by decide, ?_⟩
    refine for_range (lo := 0) (n := 2) (fun k σ H' => ∃ o2 o3, σ = [some (.ref sc), some (.ref a), o2, o3] ∧ LatheV H' a (200 * k)) ⟨_, _, rfl, l1⟩ (fun k σ H2 lt p => ?_) (fun σ H2 p => ?_)
    · obtain ⟨o2, o3, rfl, l2⟩ := p
      refine ⟨_, rfl, _, rfl, sz (by simp), fun L nL => ?_⟩
      have sL := same_upd (o := .lst [.int 2, .int 3, .int 1, .int 4, .int 6]) nL
      refine ⟨a, _, L, _, rfl, l2.same sL, by omega, l2.fresh nL, upd_same, (show 1 ≤ 5 by decide), (show 5 ≤ 1000 by decide), fun H3 i x k3 l3 ex => ?_⟩
      obtain ⟨d, rfl, d6⟩ := pick5 ex
      refine ⟨_, rfl, sz (by simp), fun L2 nL2 => ?_⟩
      have sL2 := same_upd (o := .lst [.int 3, .int 1, .int 5, .int 0]) nL2
      refine ⟨a, _, L2, _, rfl, l3.same sL2, by omega, l3.fresh nL2, upd_same, (show 1 ≤ 4 by decide), (show 4 ≤ 1000 by decide), fun H4 j y k4 l4 ey => ?_⟩
      obtain ⟨n, rfl, n5⟩ := pick4 ey
      refine ⟨a, _, d, n, rfl, l4, by omega, d6, n5, fun H5 v f k5 l5 hv df => ?_⟩
      have df6 : Drawn 6 f := ⟨df.1.mono d6, df.2⟩
      have l5 := l5.mono (t' := 200 * k + 20) (by omega)
      refine ⟨_, rfl, _, rfl, a, _, v, f, rfl, l5, by omega, hv, df6, fun H6 k6 l6 => ⟨true, rfl, iteF ?_⟩⟩
      have hv6 := hv.kpl l5 k6
      refine ⟨_, rfl, a, _, rfl, l6, by omega, fun H7 k7 l7 => ⟨true, rfl, iteF ?_⟩⟩
      have hv7 := hv6.kpl l6 k7
      refine ⟨_, rfl, _, rfl, a, _, v, f, rfl, l7, by omega, hv7, df6, fun H8 k8 l8 => ⟨true, rfl, iteF ?_⟩⟩
      exact ⟨_, _, rfl, l8.mono (by omega)⟩
    · obtain ⟨o2, o3, rfl, l2⟩ := p
      exact q _
end
/-! ### the end: the law's promise, where nothing is being shown -/
theorem law_end {P : Program} {w : World} {K : PySem.W.Frag} {mg mb : Str → Option Value} {k : Nat} {fa a : Addr} {fd : FuncData} {x : Str} {sp : Sp} {s₁ : Shared} {vs : List Value} {ns : List Int}
    (KX : K.In s₁.heap) (hns : s₁.heap.Ns mainGlobals mg) (hb : s₁.heap.Ns builtinsNs mb) (hbb : ∀ x : Str, x ≠ "__name__" → mb x = bootBuiltins x) (hlim : s₁.heap.NoLimit) (hg : s₁.gens = #[])
    (ha : s₁.heap.get? a = some { cls := .type "list", data := .seq vs.toArray }) (hi : IntsAre vs ns) (hl : ns.length ≤ sizeLine) (hr : Room k callerA)
    (F : ∀ base : Heap, K.In base → base.Ns mainGlobals mg → FnG P w K mg base k fa fd [x] sp) (hbind : ∀ (s : Shared) (u : Value), BindsTo s fd ⟨[u], []⟩ [(x, u)])
    (hsp : ∀ H : Hp, Only H → SqL K H a (ns.map V.int) → sp [.ref a] H (fun v _ => v = .bl true) fun _ _ _ => False) :
    codeAny (model P w) callerA (.call (.ref fa) ⟨[.ref a], []⟩) (fun r s' => r = .ok (.ret (.bool true)) ∧ OldK s₁.heap s'.heap ∧ s'.os = s₁.os ∧ AllBare s'.gens) s₁ := by
  have vals := vals_ints hi
  have len := hi.length
  -- H: nothing of the state is tracked but, maybe, the script
  have go : ∀ H : Hp, Only H → SqL K H a (ns.map V.int) → HOk P w H s₁.heap → (∀ b, H b ≠ none → b = a) → (H a ≠ none → K.lookup a = none) →
      codeAny (model P w) callerA (.call (.ref fa) ⟨[.ref a], []⟩) (fun r s' => r = .ok (.ret (.bool true)) ∧ OldK s₁.heap s'.heap ∧ s'.os = s₁.os ∧ AllBare s'.gens) s₁ := by
    intro H only hS hok alone notK
    have off : ∀ {b : Addr}, b ≠ a → H b = none := fun {b} n => Classical.byContradiction fun z => n (alone b z)
    have kept : ∀ {b : Addr} {o : Obj}, s₁.heap.get? b = some o → H b = none → (hidT s₁.heap H).get? b = some o := fun e n => hidT_get e n
    have dictOff : ∀ {b : Addr} {o : Obj} {es : Array DictEntry} {ep : Nat}, s₁.heap.get? b = some o → o.data = .dict es ep → H b = none := fun {b o es ep} e d => off fun z => by
      subst z
      rw [ha] at e
      cases e
      exact absurd d (fun z => nomatch z)
    have spaces : ∀ {b : Addr} {m : Str → Option Value}, s₁.heap.Ns b m → (hidT s₁.heap H).Ns b m := fun {b m} ⟨o, es, ep, e, d, r⟩ => ⟨o, es, ep, kept e (dictOff e d), d, r⟩
    have inK : K.In (hidT s₁.heap H) := fun b o e => kept (KX b o e) (Classical.byContradiction fun z => by
      have ba := alone b z
      subst ba
      rw [notK z] at e
      cases e)
    obtain ⟨mc, c1, c2⟩ := hlim
    have env : Env0 P w K mg (hidT s₁.heap H) callerA [] s₁ H := ⟨rfl, ⟨inK, spaces hns, ⟨mb, spaces hb, hbb⟩, mc, spaces c1, c2⟩, fun b o e => of_hidT e, Nat.le_of_eq (hidT_size _ _), trivial, fun b z => absurd (show b ∈ ([] : List Addr) from z) (by simp), hok, .of_eq hg⟩
    refine codeAny_mono ((F _ inK (spaces hns)).go callerA [] s₁ H ⟨[.ref a], []⟩ [.ref a] [.ref a] _ _ rfl hr env (hbind s₁ (.ref a)) (.cons rfl .nil) (hsp H only hS)) fun r s' h => ?_
    cases r with
    | error e => exact False.elim h
    | ok fl =>
      cases fl with
      | next => exact False.elim h
      | brk => exact False.elim h
      | cont => exact False.elim h
      | ret u =>
        obtain ⟨v, H', os, bare, un, hok', rv, q⟩ := h
        obtain rfl : v = .bl true := q
        obtain rfl : u = Value.bool true := rv
        refine ⟨rfl, OldK.of_keep fun b o e => ?_, os, bare⟩
        rcases only b with z | ⟨ob, xs, z⟩
        · exact un.keep b o e z (fun y => absurd (show b ∈ ([] : List Addr) from y) (by simp)) (by simp)
        · have e1 := (hok b _ z).1
          have e2 := (hok' b _ (un.frzs b ob _ z)).1
          rw [e] at e1
          cases e1
          exact e2
  cases hk : K.lookup a with
  | some o =>
    have e := KX a o hk
    rw [ha] at e
    cases e
    exact go (fun _ => none) (fun _ => .inl rfl) (.inr ⟨_, vs.toArray, _, hk, rfl, rfl, rfl, by rw [List.size_toArray, len]; exact hl, by simpa using vals⟩) (fun b u z => nomatch (show (none : Option HO) = some u from z)) (fun b z => absurd rfl z) fun z => absurd rfl z
  | none =>
    have at_ : (fun b => if b = a then some (HO.frz { cls := .type "list", data := .seq vs.toArray } (.lst (ns.map V.int))) else none) a = some (HO.frz { cls := .type "list", data := .seq vs.toArray } (.lst (ns.map V.int))) := if_pos rfl
    have is_a : ∀ {b : Addr} {u : HO}, (if b = a then some (HO.frz { cls := .type "list", data := .seq vs.toArray } (.lst (ns.map V.int))) else none) = some u → b = a := fun {b u} z => Classical.byContradiction fun n => by rw [if_neg n] at z; cases z
    refine go (fun b => if b = a then some (.frz { cls := .type "list", data := .seq vs.toArray } (.lst (ns.map V.int))) else none) (fun b => ?_) (.inl (.inr ⟨_, at_⟩)) (fun b u z => ?_) (fun b z => ?_) fun _ => hk
    · by_cases n : b = a
      · exact .inr ⟨_, _, if_pos n⟩
      · exact .inl (if_neg n)
    · have ba := is_a z
      subst ba
      have z2 := at_.symm.trans z
      cases z2
      exact ⟨ha, by rw [List.length_map]; exact hl, vs, _, vals, ha⟩
    · exact Classical.byContradiction fun n => z (if_neg n)
/-- a law over a head by facts, its promise kept where nothing is being shown -/
theorem walk_G {l : PySem.W.OpenLaw} {n k : Nat} {q : Program} {loose : List Str} {XP : (Str → Option Value) → Heap → Prop} {YP : World → Heap → Prop} {d : DefRec} {x : Str}
    (hn : l.most = some n) (hn2 : n ≤ sizeLine) (hdf : d.params.defaults = []) (hr : Room k callerA)
    (F : ∀ (w : World) (mg : Str → Option Value) (fa : Addr) (h : Heap), YP w h → h.Ns mainGlobals mg → mg d.name = some (.ref fa) →
      ∃ (K : PySem.W.Frag) (fd : FuncData) (sp : Sp), K.In h ∧ (∀ (s : Shared) (u : Value), BindsTo s fd ⟨[u], []⟩ [(x, u)]) ∧
        (∀ (H : Hp) (a : Addr) (ns : List Int), ns.length ≤ n → Only H → SqL K H a (ns.map V.int) → sp [.ref a] H (fun v _ => v = .bl true) fun _ _ _ => False) ∧
        ∀ base : Heap, K.In base → base.Ns mainGlobals mg → FnG l.prog w K mg base k fa fd [x] sp) :
    PySem.W.WalkO q loose XP YP l.row.toRowW d [] (fun f vs => PySem.call f vs) := by
  refine Att.attach_call hn hdf fun w s₀ s₁ mg mb fa o pm cd doc a vs ns G Y ho hd hcd hmg hobj hints hlen hg => ?_
  obtain ⟨K, fd, sp, inK, bind, hsp, prom⟩ := F w mg fa _ Y G.T.g hmg
  exact law_end inK G.T.g G.T.b G.T.builtins G.T.nolimit hg hobj hints (Nat.le_trans hlen hn2) hr prom bind fun H only hS => hsp H a ns hlen only hS
end Kd

namespace Kh
open PySem PySem.Spec PyProof.Rows L2 Kd
theorem rowOf {w : World} {K : PySem.W.Frag} {h h2 : Heap} {mg : Str → Option Value} (X : K.In h) (G : h.Ns mainGlobals mg) (c : He.SaysX fa fn [] [] ex w h2 K) {n m i : Nat} {x : Str} {ps : List Str} (hn : fn[n]? = some (dOf x i)) (hm : fa[m]? = some (.glo x))
    (hb : ∀ (kV doc pm : Value) (an : Option Addr) (cdv ct : Value) (us : List Value), us.length = ps.length → bindArgs (PySem.W.fnOf x x (defArgs (top i)) (defBody (top i)) (defScope (top i)) .none kV doc pm an cdv ct) ⟨us, []⟩ = pure (ps.zip us)) : Row K mg x (top i) ps := by
  obtain ⟨fd, F⟩ := c.t.d.def_ n (d := dOf x i) hn
  exact ⟨_, fd, F, He.glo_ok X G (c.t.d.fact m (f := .glo x) hm), F.bindsN hb⟩
theorem facts {P : Program} {w : World} {K : PySem.W.Frag} {h h2 : Heap} {mg : Str → Option Value} (base : Heap) (X : K.In h) (G : h.Ns mainGlobals mg) (c : He.SaysX fa fn [] [] ex w h2 K) {fL : Addr} {fdL : FuncData} (FL : FunD K "law" "law" (defArgs (top 71)) (defBody (top 71)) (defScope (top 71)) [] [] fL fdL) : FnG P w K mg base 13 fL fdL ["_law_script"] (spLaw K) := by
  have more := c.more
  unfold ex at more
  simp only [Bool.and_eq_true, decide_eq_true_eq] at more
  obtain ⟨e1, e2, e3, e4, e5, e6⟩ := more
  have e2 := He.eqO_ok e2
  have e3 := He.eqO_ok e3
  have e6 := He.eqO_ok e6
  have gu : ∃ a, mg "UNKNOWNS" = some (.ref a) ∧ ∀ H, SqT K H a [.str "x", .str "y"] := ⟨_, He.glo_ok X G (c.t.d.fact 59 (f := .glo "UNKNOWNS") rfl), fun H => He.tupB_ok e1 H⟩
  have gm : ∃ u, mg "MOST_DEGREE" = some u ∧ RelV (.int 6) u := by
    obtain ⟨t, e⟩ := He.int_ok X G (c.t.d.fact 60 (f := .int "MOST_DEGREE" 6) rfl)
    exact ⟨_, e, t, rfl⟩
  have o_is_integer := ok_is_integer (P := P) (w := w) (base := base) (rowOf X G c (n := 0) (m := 0) (x := "is_integer") (i := 8) (ps := ["value"]) rfl rfl (fun _ _ _ _ _ _ us hl => match us, hl with | [_], _ => rfl)) (He.free_ok X G (c.t.d.fact 66 (f := .free "isinstance") rfl)) (He.free_ok X G (c.t.d.fact 65 (f := .free "int") rfl)) (He.free_ok X G (c.t.d.fact 63 (f := .free "bool") rfl))
  have o_is_within := ok_is_within (P := P) (w := w) (base := base) (rowOf X G c (n := 1) (m := 1) (x := "is_within") (i := 9) (ps := ["value", "least", "most"]) rfl rfl (fun _ _ _ _ _ _ us hl => match us, hl with | [_, _, _], _ => rfl)) o_is_integer
  have o_is_list := ok_is_list (P := P) (w := w) (base := base) (rowOf X G c (n := 2) (m := 2) (x := "is_list") (i := 10) (ps := ["value"]) rfl rfl (fun _ _ _ _ _ _ us hl => match us, hl with | [_], _ => rfl)) (He.free_ok X G (c.t.d.fact 66 (f := .free "isinstance") rfl)) (He.free_ok X G (c.t.d.fact 68 (f := .free "list") rfl)) (He.free_ok X G (c.t.d.fact 74 (f := .free "tuple") rfl))
  have o_common := ok_common (P := P) (w := w) (base := base) (rowOf X G c (n := 3) (m := 3) (x := "common") (i := 11) (ps := ["one", "other"]) rfl rfl (fun _ _ _ _ _ _ us hl => match us, hl with | [_, _], _ => rfl)) (He.free_ok X G (c.t.d.fact 61 (f := .free "abs") rfl))
  have o_is_number := ok_is_number (P := P) (w := w) (base := base) (rowOf X G c (n := 4) (m := 4) (x := "is_number") (i := 12) (ps := ["value"]) rfl rfl (fun _ _ _ _ _ _ us hl => match us, hl with | [_], _ => rfl)) (He.free_ok X G (c.t.d.fact 67 (f := .free "len") rfl)) o_is_integer o_is_within o_is_list o_common
  have o_kept := ok_kept (P := P) (w := w) (base := base) (rowOf X G c (n := 7) (m := 7) (x := "kept") (i := 15) (ps := ["number"]) rfl rfl (fun _ _ _ _ _ _ us hl => match us, hl with | [_], _ => rfl)) (He.free_ok X G (c.t.d.fact 66 (f := .free "isinstance") rfl)) (He.free_ok X G (c.t.d.fact 68 (f := .free "list") rfl)) (He.free_ok X G (c.t.d.fact 74 (f := .free "tuple") rfl))
  have o_halves := ok_halves (P := P) (w := w) (base := base) (rowOf X G c (n := 12) (m := 12) (x := "halves") (i := 21) (ps := ["number"]) rfl rfl (fun _ _ _ _ _ _ us hl => match us, hl with | [_], _ => rfl)) (He.free_ok X G (c.t.d.fact 66 (f := .free "isinstance") rfl)) (He.free_ok X G (c.t.d.fact 65 (f := .free "int") rfl))
  have o_lowest := ok_lowest (P := P) (w := w) (base := base) (rowOf X G c (n := 13) (m := 13) (x := "lowest") (i := 22) (ps := ["above", "under"]) rfl rfl (fun _ _ _ _ _ _ us hl => match us, hl with | [_, _], _ => rfl)) o_common
  have o_law_both := ok_both (P := P) (w := w) (base := base) (rowOf X G c (n := 42) (m := 42) (x := "_law_both") (i := 56) (ps := ["_law_number"]) rfl rfl (fun _ _ _ _ _ _ us hl => match us, hl with | [_], _ => rfl)) (He.free_ok X G (c.t.d.fact 66 (f := .free "isinstance") rfl)) (He.free_ok X G (c.t.d.fact 65 (f := .free "int") rfl))
  have o_law_low := ok_low (P := P) (w := w) (base := base) (rowOf X G c (n := 43) (m := 43) (x := "_law_low") (i := 57) (ps := ["_law_above", "_law_under"]) rfl rfl (fun _ _ _ _ _ _ us hl => match us, hl with | [_, _], _ => rfl)) (He.free_ok X G (c.t.d.fact 61 (f := .free "abs") rfl)) (He.free_ok X G (c.t.d.fact 65 (f := .free "int") rfl))
  have o_added := ok_added (P := P) (w := w) (base := base) (rowOf X G c (n := 14) (m := 14) (x := "added") (i := 23) (ps := ["one", "other"]) rfl rfl (fun _ _ _ _ _ _ us hl => match us, hl with | [_, _], _ => rfl)) o_halves o_lowest
  have o_product := ok_product (P := P) (w := w) (base := base) (rowOf X G c (n := 16) (m := 16) (x := "product") (i := 25) (ps := ["one", "other"]) rfl rfl (fun _ _ _ _ _ _ us hl => match us, hl with | [_, _], _ => rfl)) o_halves o_lowest
  have o_part_by := ok_part_by (P := P) (w := w) (base := base) (rowOf X G c (n := 17) (m := 17) (x := "part_by") (i := 26) (ps := ["one", "other"]) rfl rfl (fun _ _ _ _ _ _ us hl => match us, hl with | [_, _], _ => rfl)) o_halves o_lowest
  have o_law_plus := ok_law_plus (P := P) (w := w) (base := base) (rowOf X G c (n := 44) (m := 44) (x := "_law_plus") (i := 58) (ps := ["_law_one", "_law_other"]) rfl rfl (fun _ _ _ _ _ _ us hl => match us, hl with | [_, _], _ => rfl)) o_law_both o_law_low
  have o_law_times := ok_law_times (P := P) (w := w) (base := base) (rowOf X G c (n := 45) (m := 45) (x := "_law_times") (i := 59) (ps := ["_law_one", "_law_other"]) rfl rfl (fun _ _ _ _ _ _ us hl => match us, hl with | [_, _], _ => rfl)) o_law_both o_law_low
  have o_turned := ok_turned (P := P) (w := w) (base := base) (rowOf X G c (n := 15) (m := 15) (x := "turned") (i := 24) (ps := ["number"]) rfl rfl (fun _ _ _ _ _ _ us hl => match us, hl with | [_], _ => rfl)) o_halves
  have o_is_point := ok_is_point (P := P) (w := w) (base := base) (rowOf X G c (n := 5) (m := 5) (x := "is_point") (i := 13) (ps := ["value"]) rfl rfl (fun _ _ _ _ _ _ us hl => match us, hl with | [_], _ => rfl)) (He.free_ok X G (c.t.d.fact 67 (f := .free "len") rfl)) (He.free_ok X G (c.t.d.fact 62 (f := .free "all") rfl)) o_is_list o_is_number
  have o_kept_row := ok_kept_row (P := P) (w := w) (base := base) (rowOf X G c (n := 8) (m := 8) (x := "kept_row") (i := 16) (ps := ["row"]) rfl rfl (fun _ _ _ _ _ _ us hl => match us, hl with | [_], _ => rfl)) (He.free_ok X G (c.t.d.fact 74 (f := .free "tuple") rfl)) o_kept
  have o_need_number := ok_need_number (P := P) (w := w) (base := base) (rowOf X G c (n := 9) (m := 9) (x := "need_number") (i := 17) (ps := ["value", "part"]) rfl rfl (fun _ _ _ _ _ _ us hl => match us, hl with | [_, _], _ => rfl)) o_is_number o_kept
  have o_need_point := ok_need_point (P := P) (w := w) (base := base) (rowOf X G c (n := 10) (m := 10) (x := "need_point") (i := 18) (ps := ["value", "part"]) rfl rfl (fun _ _ _ _ _ _ us hl => match us, hl with | [_, _], _ => rfl)) o_is_point o_kept_row
  have o_is_turn := ok_is_turn (P := P) (w := w) (base := base) (rowOf X G c (n := 6) (m := 6) (x := "is_turn") (i := 14) (ps := ["value"]) rfl rfl (fun _ _ _ _ _ _ us hl => match us, hl with | [_], _ => rfl)) o_is_point o_is_list
  have o_need_turn := ok_need_turn (P := P) (w := w) (base := base) (rowOf X G c (n := 11) (m := 11) (x := "need_turn") (i := 19) (ps := ["value", "part"]) rfl rfl (fun _ _ _ _ _ _ us hl => match us, hl with | [_, _], _ => rfl)) o_is_turn o_kept_row
  have o_is_term := ok_is_term (P := P) (w := w) (base := base) (rowOf X G c (n := 18) (m := 18) (x := "is_term") (i := 30) (ps := ["value"]) rfl rfl (fun _ _ _ _ _ _ us hl => match us, hl with | [_], _ => rfl)) (He.free_ok X G (c.t.d.fact 67 (f := .free "len") rfl)) (He.free_ok X G (c.t.d.fact 62 (f := .free "all") rfl)) gm o_is_list o_is_number o_is_within
  obtain ⟨fdI, FI⟩ := c.t.d.def_ 58 (d := mOf "Poly" "__init__" "Poly.__init__" 31 0) rfl
  obtain ⟨fdE, FE⟩ := c.t.d.def_ 59 (d := mOf "Poly" "__eq__" "Poly.__eq__" 31 1) rfl
  have cls := He.cls_ok (c.t.d.fact 76 (f := .cls "Poly") rfl)
  have nt := He.noat_ok (c.t.d.fact 79 (f := .noat "Poly" "terms") rfl)
  have ndg := He.noat_ok (c.t.d.fact 80 (f := .noat "Poly" "degree") rfl)
  have mk := He.mkr_ok (c.t.d.fact 77 (f := .mkr "Poly") rfl)
  have me := He.meth_ok (c.t.d.fact 78 (f := .meth "Poly" "__eq__") rfl)
  have gC := He.glo_ok X G (c.t.d.fact 58 (f := .glo "Poly") rfl)
  have PC : PolyC P w K mg base (He.ga K "Poly") := ⟨⟨_, _, mk, ok_init cls nt ndg (He.free_ok X G (c.t.d.fact 67 (f := .free "len") rfl)) (He.free_ok X G (c.t.d.fact 62 (f := .free "all") rfl)) (He.free_ok X G (c.t.d.fact 72 (f := .free "sorted") rfl)) (He.free_ok X G (c.t.d.fact 74 (f := .free "tuple") rfl)) (He.free_ok X G (c.t.d.fact 69 (f := .free "max") rfl)) o_is_list o_is_term o_kept _ _ FI, FI.bindsN fun _ _ _ _ _ _ us hl => match us, hl with | [_, _], _ => rfl⟩, gC, cls, nt, ndg, e2, e3, e4, e5⟩
  have PE : PolyE P w K mg base (He.ga K "Poly") := ⟨⟨_, _, ok_eq PC (He.free_ok X G (c.t.d.fact 66 (f := .free "isinstance") rfl)) _ _ FE, me.at_, me.fn, FE.bindsN fun _ _ _ _ _ _ us hl => match us, hl with | [_, _], _ => rfl⟩, e6⟩
  have o_need_poly := ok_need_poly (P := P) (w := w) (base := base) (rowOf X G c (n := 19) (m := 19) (x := "need_poly") (i := 32) (ps := ["value", "part"]) rfl rfl (fun _ _ _ _ _ _ us hl => match us, hl with | [_, _], _ => rfl)) (He.free_ok X G (c.t.d.fact 66 (f := .free "isinstance") rfl)) PC
  have o_need_low := ok_need_low (P := P) (w := w) (base := base) (rowOf X G c (n := 20) (m := 20) (x := "need_low") (i := 33) (ps := ["degree"]) rfl rfl (fun _ _ _ _ _ _ us hl => match us, hl with | [_], _ => rfl)) gm
  have o_of_powers := ok_of_powers (P := P) (w := w) (base := base) (rowOf X G c (n := 21) (m := 21) (x := "of_powers") (i := 34) (ps := ["found"]) rfl rfl (fun _ _ _ _ _ _ us hl => match us, hl with | [_], _ => rfl)) PC
  have o_lone := ok_lone (P := P) (w := w) (base := base) (rowOf X G c (n := 22) (m := 22) (x := "lone") (i := 35) (ps := ["number"]) rfl rfl (fun _ _ _ _ _ _ us hl => match us, hl with | [_], _ => rfl)) o_of_powers
  have o_line := ok_line (P := P) (w := w) (base := base) (rowOf X G c (n := 23) (m := 23) (x := "line") (i := 36) (ps := ["across", "up", "number"]) rfl rfl (fun _ _ _ _ _ _ us hl => match us, hl with | [_, _, _], _ => rfl)) o_of_powers
  have o_times_of := ok_times_of (P := P) (w := w) (base := base) (rowOf X G c (n := 25) (m := 25) (x := "times_of") (i := 38) (ps := ["poly", "number"]) rfl rfl (fun _ _ _ _ _ _ us hl => match us, hl with | [_, _], _ => rfl)) PC o_of_powers o_product
  have o_sum_of := ok_sum_of (P := P) (w := w) (base := base) (rowOf X G c (n := 24) (m := 24) (x := "sum_of") (i := 37) (ps := ["one", "other"]) rfl rfl (fun _ _ _ _ _ _ us hl => match us, hl with | [_, _], _ => rfl)) PC o_of_powers o_added
  have o_product_of := ok_product_of (P := P) (w := w) (base := base) (rowOf X G c (n := 26) (m := 26) (x := "product_of") (i := 39) (ps := ["one", "other"]) rfl rfl (fun _ _ _ _ _ _ us hl => match us, hl with | [_, _], _ => rfl)) PC o_of_powers o_added o_product o_need_low
  have o_power_of := ok_power_of (P := P) (w := w) (base := base) (rowOf X G c (n := 27) (m := 27) (x := "power_of") (i := 40) (ps := ["poly", "many"]) rfl rfl (fun _ _ _ _ _ _ us hl => match us, hl with | [_, _], _ => rfl)) (He.free_ok X G (c.t.d.fact 70 (f := .free "range") rfl)) o_lone o_product_of
  have o_put_in_of := ok_put_in_of (P := P) (w := w) (base := base) (rowOf X G c (n := 28) (m := 28) (x := "put_in_of") (i := 41) (ps := ["poly", "one", "other"]) rfl rfl (fun _ _ _ _ _ _ us hl => match us, hl with | [_, _, _], _ => rfl)) PC o_lone o_product_of o_power_of o_sum_of o_times_of
  have o_number_power := ok_number_power (P := P) (w := w) (base := base) (rowOf X G c (n := 29) (m := 29) (x := "number_power") (i := 42) (ps := ["number", "many"]) rfl rfl (fun _ _ _ _ _ _ us hl => match us, hl with | [_, _], _ => rfl)) (He.free_ok X G (c.t.d.fact 70 (f := .free "range") rfl)) o_product
  have o_value_of := ok_value_of (P := P) (w := w) (base := base) (rowOf X G c (n := 30) (m := 30) (x := "value_of") (i := 43) (ps := ["poly", "point"]) rfl rfl (fun _ _ _ _ _ _ us hl => match us, hl with | [_, _], _ => rfl)) PC o_number_power o_product o_added
  have o_poly_sum := ok_poly_sum (P := P) (w := w) (base := base) (rowOf X G c (n := 31) (m := 31) (x := "poly_sum") (i := 44) (ps := ["one", "other"]) rfl rfl (fun _ _ _ _ _ _ us hl => match us, hl with | [_, _], _ => rfl)) o_need_poly o_sum_of
  have o_poly_product := ok_poly_product (P := P) (w := w) (base := base) (rowOf X G c (n := 32) (m := 32) (x := "poly_product") (i := 45) (ps := ["one", "other"]) rfl rfl (fun _ _ _ _ _ _ us hl => match us, hl with | [_, _], _ => rfl)) o_need_poly o_product_of
  have o_value := ok_value (P := P) (w := w) (base := base) (rowOf X G c (n := 33) (m := 33) (x := "value") (i := 46) (ps := ["poly", "point"]) rfl rfl (fun _ _ _ _ _ _ us hl => match us, hl with | [_, _], _ => rfl)) o_need_poly o_need_point o_value_of
  have o_put_in := ok_put_in (P := P) (w := w) (base := base) (rowOf X G c (n := 35) (m := 35) (x := "put_in") (i := 48) (ps := ["poly", "one", "other"]) rfl rfl (fun _ _ _ _ _ _ us hl => match us, hl with | [_, _, _], _ => rfl)) o_need_poly o_put_in_of
  have o_moved := ok_moved (P := P) (w := w) (base := base) (rowOf X G c (n := 36) (m := 36) (x := "moved") (i := 49) (ps := ["poly", "point"]) rfl rfl (fun _ _ _ _ _ _ us hl => match us, hl with | [_, _], _ => rfl)) o_need_poly o_need_point o_turned o_line o_put_in_of
  have o_turned_poly := ok_turned_poly (P := P) (w := w) (base := base) (rowOf X G c (n := 37) (m := 37) (x := "turned_poly") (i := 50) (ps := ["poly", "turn"]) rfl rfl (fun _ _ _ _ _ _ us hl => match us, hl with | [_, _], _ => rfl)) o_need_poly o_need_turn o_turned o_line o_put_in_of
  have o_stretched := ok_stretched (P := P) (w := w) (base := base) (rowOf X G c (n := 38) (m := 38) (x := "stretched") (i := 51) (ps := ["poly", "number"]) rfl rfl (fun _ _ _ _ _ _ us hl => match us, hl with | [_, _], _ => rfl)) o_need_poly o_need_number o_part_by o_line o_put_in_of
  have o_slope := ok_slope (P := P) (w := w) (base := base) (rowOf X G c (n := 34) (m := 34) (x := "slope") (i := 47) (ps := ["poly", "unknown"]) rfl rfl (fun _ _ _ _ _ _ us hl => match us, hl with | [_, _], _ => rfl)) (He.free_ok X G (c.t.d.fact 66 (f := .free "isinstance") rfl)) (He.free_ok X G (c.t.d.fact 73 (f := .free "str") rfl)) gu PC o_need_poly o_of_powers o_product
  have o_law_lathe := ok_lathe (P := P) (w := w) (base := base) (rowOf X G c (n := 39) (m := 39) (x := "_law_lathe") (i := 53) (ps := ["_law_script"]) rfl rfl (fun _ _ _ _ _ _ us hl => match us, hl with | [_], _ => rfl)) (He.free_ok X G (c.t.d.fact 65 (f := .free "int") rfl))
  have o_law_spin := ok_spin (P := P) (w := w) (base := base) (rowOf X G c (n := 40) (m := 40) (x := "_law_spin") (i := 54) (ps := ["_law_lathe_here", "_law_many"]) rfl rfl (fun _ _ _ _ _ _ us hl => match us, hl with | [_, _], _ => rfl)) (He.free_ok X G (c.t.d.fact 65 (f := .free "int") rfl)) (He.free_ok X G (c.t.d.fact 67 (f := .free "len") rfl)) (He.free_ok X G (c.t.d.fact 61 (f := .free "abs") rfl))
  have o_law_one_of := ok_one_of (P := P) (w := w) (base := base) (rowOf X G c (n := 41) (m := 41) (x := "_law_one_of") (i := 55) (ps := ["_law_lathe_here", "_law_some_here"]) rfl rfl (fun _ _ _ _ _ _ us hl => match us, hl with | [_, _], _ => rfl)) (He.free_ok X G (c.t.d.fact 67 (f := .free "len") rfl)) o_law_spin
  have o_law_some := ok_some (P := P) (w := w) (base := base) (rowOf X G c (n := 49) (m := 49) (x := "_law_some") (i := 63) (ps := ["_law_lathe_here"]) rfl rfl (fun _ _ _ _ _ _ us hl => match us, hl with | [_], _ => rfl)) o_law_spin o_law_one_of o_law_low
  have o_law_point := ok_point (P := P) (w := w) (base := base) (rowOf X G c (n := 50) (m := 50) (x := "_law_point") (i := 64) (ps := ["_law_lathe_here"]) rfl rfl (fun _ _ _ _ _ _ us hl => match us, hl with | [_], _ => rfl)) o_law_some
  have o_law_turn := ok_turn (P := P) (w := w) (base := base) (rowOf X G c (n := 51) (m := 51) (x := "_law_turn") (i := 65) (ps := ["_law_lathe_here"]) rfl rfl (fun _ _ _ _ _ _ us hl => match us, hl with | [_], _ => rfl)) o_law_spin o_law_low
  have o_law_powers := ok_powers (P := P) (w := w) (base := base) (rowOf X G c (n := 46) (m := 46) (x := "_law_powers") (i := 60) (ps := ["_law_lathe_here", "_law_degree", "_law_many"]) rfl rfl (fun _ _ _ _ _ _ us hl => match us, hl with | [_, _, _], _ => rfl)) (He.free_ok X G (c.t.d.fact 70 (f := .free "range") rfl)) o_law_spin o_law_one_of
  have o_law_terms := ok_terms (P := P) (w := w) (base := base) (rowOf X G c (n := 47) (m := 47) (x := "_law_terms") (i := 61) (ps := ["_law_found"]) rfl rfl (fun _ _ _ _ _ _ us hl => match us, hl with | [_], _ => rfl)) (He.free_ok X G (c.t.d.fact 72 (f := .free "sorted") rfl)) (He.free_ok X G (c.t.d.fact 74 (f := .free "tuple") rfl))
  have o_law_poly := ok_law_poly (P := P) (w := w) (base := base) (rowOf X G c (n := 52) (m := 52) (x := "_law_poly") (i := 66) (ps := ["_law_lathe_here", "_law_degree", "_law_many"]) rfl rfl (fun _ _ _ _ _ _ us hl => match us, hl with | [_, _, _], _ => rfl)) PC o_law_terms o_law_powers
  have o_law_dict := ok_law_dict (P := P) (w := w) (base := base) (rowOf X G c (n := 53) (m := 53) (x := "_law_dict") (i := 67) (ps := ["_law_poly_here"]) rfl rfl (fun _ _ _ _ _ _ us hl => match us, hl with | [_], _ => rfl)) (He.free_ok X G (c.t.d.fact 64 (f := .free "dict") rfl)) PC
  have o_law_worth := ok_worth (P := P) (w := w) (base := base) (rowOf X G c (n := 48) (m := 48) (x := "_law_worth") (i := 62) (ps := ["_law_found", "_law_point_here"]) rfl rfl (fun _ _ _ _ _ _ us hl => match us, hl with | [_, _], _ => rfl)) (He.free_ok X G (c.t.d.fact 70 (f := .free "range") rfl)) o_law_times o_law_plus
  have o_law_slope_right := ok_slope_right (P := P) (w := w) (base := base) (rowOf X G c (n := 54) (m := 54) (x := "_law_slope_right") (i := 68) (ps := ["_law_lathe_here", "_law_poly_here"]) rfl rfl (fun _ _ _ _ _ _ us hl => match us, hl with | [_, _], _ => rfl)) PC PE (He.free_ok X G (c.t.d.fact 71 (f := .free "repr") rfl)) o_law_times o_slope o_law_terms o_law_poly o_law_one_of o_poly_sum o_poly_product
  have o_law_put_right := ok_put_right (P := P) (w := w) (base := base) (rowOf X G c (n := 55) (m := 55) (x := "_law_put_right") (i := 69) (ps := ["_law_lathe_here"]) rfl rfl (fun _ _ _ _ _ _ us hl => match us, hl with | [_], _ => rfl)) PC PE (He.free_ok X G (c.t.d.fact 71 (f := .free "repr") rfl)) (He.free_ok X G (c.t.d.fact 70 (f := .free "range") rfl)) o_law_spin o_law_one_of o_law_poly o_put_in o_law_point o_law_worth o_law_dict o_slope o_value o_law_times o_law_plus
  have o_law_led_right := ok_led_right (P := P) (w := w) (base := base) (rowOf X G c (n := 56) (m := 56) (x := "_law_led_right") (i := 70) (ps := ["_law_lathe_here", "_law_poly_here"]) rfl rfl (fun _ _ _ _ _ _ us hl => match us, hl with | [_, _], _ => rfl)) PC PE (He.free_ok X G (c.t.d.fact 71 (f := .free "repr") rfl)) (He.free_ok X G (c.t.d.fact 70 (f := .free "range") rfl)) (He.free_ok X G (c.t.d.fact 75 (f := .free "zip") rfl)) o_law_one_of o_law_point o_law_turn o_moved o_turned_poly o_stretched o_law_worth o_law_dict o_law_both o_law_low o_law_times o_law_plus
  have o_law := ok_law (P := P) (w := w) (base := base) FL (He.free_ok X G (c.t.d.fact 70 (f := .free "range") rfl)) o_law_lathe o_law_one_of o_law_poly o_law_slope_right o_law_put_right o_law_led_right
  exact o_law
end Kh
namespace Kh
open PySem PySem.Spec PyProof.Rows L2 Kd
/-- the law's def, one for every base -/
theorem law_of {P : Program} {w : World} {K : PySem.W.Frag} {h h2 : Heap} {mg : Str → Option Value} {f : Addr} (X : K.In h) (G : h.Ns mainGlobals mg) (hf : mg ("law" : Str) = some (.ref f)) (c : He.SaysX fa fn [] [] ex w h2 K) :
    ∃ fd : FuncData, (∀ base : Heap, K.In base → base.Ns mainGlobals mg → FnG P w K mg base 13 f fd ["_law_script"] (spLaw K)) ∧ ∀ (s : Shared) (u : Value), BindsTo s fd ⟨[u], []⟩ [("_law_script", u)] := by
  obtain ⟨fd, F⟩ := c.t.d.def_ 57 (d := dOf "law" 71) rfl
  have e := hf.symm.trans (He.glo_ok X G (c.t.d.fact 57 (f := .glo "law") rfl))
  have b := FunD.bindsA (ps := ["_law_script"]) F fun _ _ _ _ _ _ us hl => match us, hl with | [_], _ => rfl
  cases e
  exact ⟨fd, fun base _ _ => facts (P := P) base X G c F, fun s u => b s [u] rfl⟩
end Kh
open PySem PySem.W PySem.Calls PyProof.Rows
theorem PySem.Challenge.cw_typedcurve_k12_whole_slopes_and_what_is_holds : PySem.Challenge.rw_typedcurve_k12_whole_slopes_and_what_is.Holds := by
  w_on; o_law
  refine HandSHeadRun.head_any (r := OpenLaw.row PySem.Challenge.rw_typedcurve_k12_whole_slopes_and_what_is) (q := view (OpenLaw.row PySem.Challenge.rw_typedcurve_k12_whole_slopes_and_what_is).prog [71]) (H := Kh.hk) (ob := Kh.ob) (M := 20000) (loose := Kh.nms) (d := HandSHeadRun.topDef (OpenLaw.row PySem.Challenge.rw_typedcurve_k12_whole_slopes_and_what_is).prog 71) (kwd := []) Kh.ob_eq
    (by kernel_rfl) (fun s => by kernel_rfl) Kh.run (by kernel_rfl) (by kernel_rfl) (by kernel_rfl) (by rfl) (by first | assumption | decide +kernel) (by decide +kernel) ⟨rfl, rfl, rfl, rfl, rfl, by decide +kernel⟩ ?hw ?hc
  case hw => w_witness2
  case hc =>
    refine Kd.walk_G (l := PySem.Challenge.rw_typedcurve_k12_whole_slopes_and_what_is) (n := 63) (k := 13) (x := "_law_script") rfl (by decide) (by kernel_rfl) ⟨rfl, by decide, by decide⟩ ?F
    intro w mg fa h Y G hmg0
    obtain ⟨K, KX, c⟩ := Y
    have hmg : mg ("law" : PySem.Str) = some (.ref fa) := by
      have e : (HandSHeadRun.topDef (OpenLaw.row PySem.Challenge.rw_typedcurve_k12_whole_slopes_and_what_is).prog 71).name = ("law" : PySem.Str) := by kernel_rfl
      rw [← e]
      exact hmg0
    obtain ⟨fd, hF, hb⟩ := Kh.law_of (P := (PySem.Challenge.rw_typedcurve_k12_whole_slopes_and_what_is).prog) KX G hmg c
    exact ⟨K, fd, Kd.spLaw K, KX, hb, fun H a ns hl _ hS => ⟨a, ns, rfl, hS, hl, fun _ => rfl⟩, hF⟩
