import PyProof.Rows.All
import Wide.All
import OpenK.AllK
import Wide.FinOn
import HandS.Base
import HandS.Call
import HandS.List
import HandS.Comp
import HandS.Ends
import HandS.Iter
import HandS.Text
import HandS.Words
import HandS.WordsList
import HandS.Codes
import HandS.WideBits
import HandS.IsInst
import HandS.Defaults
import KE.KStateDown
import HandS.Head0
import HandS.Head1
import HandS.Head2
import HandS.HeadEnd
import HandS.HeadHook1
import HandS.HeadHook2
import PySem.Challenge.RW_groupcost_k56_whole_prices_as_a_table
set_option Elab.async false
set_option linter.all false
set_option maxRecDepth 100000
set_option maxHeartbeats 4000000
namespace Gc
/-! ### groups -/
def hin (n : Nat) : List Nat := (List.range 6).filter (fun k => n.testBit k)
def pc (n : Nat) : Nat := (hin n).length
def giv (r : List Int) (n : Nat) : Int := ((hin n).map (fun k => r.getD k 0)).sum
def bt (r : List Int) (n k : Nat) : Int := if n.testBit k then r.getD k 0 else 0
theorem sum_filter (f : Nat → Int) (p : Nat → Bool) : ∀ l : List Nat, ((l.filter p).map f).sum = (l.map fun k => if p k then f k else 0).sum
  | [] => rfl
  | x :: l => by
    have ih := sum_filter f p l
    by_cases h : p x
    · rw [List.filter_cons_of_pos h, List.map_cons, List.sum_cons, List.map_cons, List.sum_cons, ih, if_pos h]
    · rw [List.filter_cons_of_neg h, List.map_cons, List.sum_cons, ih, if_neg h, Int.zero_add]
theorem giv_eq (r : List Int) (n : Nat) : giv r n = bt r n 0 + (bt r n 1 + (bt r n 2 + (bt r n 3 + (bt r n 4 + bt r n 5)))) := by
  unfold giv hin
  rw [sum_filter]
  show bt r n 0 + (bt r n 1 + (bt r n 2 + (bt r n 3 + (bt r n 4 + (bt r n 5 + 0))))) = _
  omega
theorem bt_mod (r : List Int) (a b k : Nat) : bt r (a ||| b) k + bt r (a &&& b) k = bt r a k + bt r b k := by
  unfold bt
  rw [Nat.testBit_or, Nat.testBit_and]
  cases a.testBit k <;> cases b.testBit k <;> simp
theorem giv_mod (r : List Int) (a b : Nat) : giv r (a ||| b) + giv r (a &&& b) = giv r a + giv r b := by
  rw [giv_eq, giv_eq, giv_eq, giv_eq]
  have h0 := bt_mod r a b 0
  have h1 := bt_mod r a b 1
  have h2 := bt_mod r a b 2
  have h3 := bt_mod r a b 3
  have h4 := bt_mod r a b 4
  have h5 := bt_mod r a b 5
  omega
theorem giv_zero (r : List Int) : giv r 0 = 0 := rfl
theorem getD_out {r : List Int} {k : Nat} (h : r.length ≤ k) : r.getD k 0 = 0 := by
  rw [List.getD_eq_getElem?_getD, List.getElem?_eq_none h]
  rfl
theorem giv_cons (x : Int) (r : List Int) (n : Nat) (h : r.length ≤ 5) : giv (x :: r) n = (if n % 2 = 1 then x else 0) + giv r (n / 2) := by
  have e : ∀ k, bt (x :: r) n (k + 1) = bt r (n / 2) k := fun k => by
    unfold bt
    rw [Nat.testBit_succ]
    rfl
  have e0 : bt (x :: r) n 0 = if n % 2 = 1 then x else 0 := by
    unfold bt
    rw [Nat.testBit_zero]
    by_cases h : n % 2 = 1
    · rw [if_pos h, if_pos (decide_eq_true h)]
      rfl
    · rw [if_neg h, if_neg (by rw [decide_eq_false h]; exact Bool.false_ne_true)]
  have e5 : bt r (n / 2) 5 = 0 := by
    unfold bt
    rw [getD_out h]
    split <;> rfl
  rw [giv_eq, giv_eq, e0, e 0, e 1, e 2, e 3, e 4, e5]
  omega
theorem giv_pow (r : List Int) : ∀ k, k < 6 → giv r (2 ^ k) = r.getD k 0
  | 0, _ => by rw [giv_eq]; show r.getD 0 0 + 0 = _; omega
  | 1, _ => by rw [giv_eq]; show 0 + (r.getD 1 0 + 0) = _; omega
  | 2, _ => by rw [giv_eq]; show 0 + (0 + (r.getD 2 0 + 0)) = _; omega
  | 3, _ => by rw [giv_eq]; show 0 + (0 + (0 + (r.getD 3 0 + 0))) = _; omega
  | 4, _ => by rw [giv_eq]; show 0 + (0 + (0 + (0 + (r.getD 4 0 + 0)))) = _; omega
  | 5, _ => by rw [giv_eq]; show 0 + (0 + (0 + (0 + (0 + r.getD 5 0)))) = _; omega
  | k + 6, h => absurd h (by omega)
theorem giv_bd (r : List Int) (n : Nat) (B : Int) (h0 : 0 ≤ B) (h : ∀ k, -B ≤ r.getD k 0 ∧ r.getD k 0 ≤ B) : -(6 * B) ≤ giv r n ∧ giv r n ≤ 6 * B := by
  have e : ∀ k, -B ≤ bt r n k ∧ bt r n k ≤ B := fun k => by
    unfold bt
    have := h k
    split <;> omega
  rw [giv_eq]
  have h0 := e 0
  have h1 := e 1
  have h2 := e 2
  have h3 := e 3
  have h4 := e 4
  have h5 := e 5
  omega
/-! ### tables -/
def gt (T : List Int) (g : Nat) : Int := T.getD g 0
structure Tab (h : Nat) (T : List Int) : Prop where
  len : T.length = 2 ^ h
  zero : gt T 0 = 0
  fall : ∀ a b, a < 2 ^ h → b < 2 ^ h → gt T (a ||| b) + gt T (a &&& b) ≤ gt T a + gt T b
def tabL (n : Nat) (f : Nat → Int) : List Int := (List.range n).map f
theorem tabL_len (n : Nat) (f : Nat → Int) : (tabL n f).length = n := by
  unfold tabL
  rw [List.length_map, List.length_range]
theorem gt_tabL {n g : Nat} (f : Nat → Int) (h : g < n) : gt (tabL n f) g = f g := by
  unfold gt tabL
  rw [List.getD_eq_getElem?_getD, List.getElem?_map, List.getElem?_range h]
  rfl
theorem tab_of {h : Nat} {f : Nat → Int} (h0 : f 0 = 0) (hf : ∀ a b, a < 2 ^ h → b < 2 ^ h → f (a ||| b) + f (a &&& b) ≤ f a + f b) : Tab h (tabL (2 ^ h) f) := by
  refine ⟨tabL_len _ _, ?_, fun a b ha hb => ?_⟩
  · rw [gt_tabL f (Nat.two_pow_pos h), h0]
  · rw [gt_tabL f (Nat.or_lt_two_pow ha hb), gt_tabL f (Nat.and_lt_two_pow a hb), gt_tabL f ha, gt_tabL f hb]
    exact hf a b ha hb
theorem tab_row (h : Nat) (r : List Int) : Tab h (tabL (2 ^ h) (giv r)) := tab_of (giv_zero r) fun a b _ _ => by
  have := giv_mod r a b
  omega
theorem ext_gt {T : List Int} {n : Nat} {f : Nat → Int} (hl : T.length = n) (h : ∀ g, g < n → gt T g = f g) : T = tabL n f := by
  refine List.ext_getElem (by rw [hl, tabL_len]) fun i h1 h2 => ?_
  have e1 : gt T i = T[i] := by
    unfold gt
    rw [List.getD_eq_getElem?_getD, List.getElem?_eq_getElem h1]
    rfl
  have e2 : gt (tabL n f) i = (tabL n f)[i] := by
    unfold gt
    rw [List.getD_eq_getElem?_getD, List.getElem?_eq_getElem h2]
    rfl
  rw [← e1, ← e2, h i (by omega), gt_tabL f (by omega)]
/-! ### the exchange of one hand -/
theorem gap_ok {h : Nat} {T : List Int} (t : Tab h T) (hh : h ≤ 6) {g i j : Nat} (hg : g < 2 ^ h) (hi : i < h) (hj : j < h) (hij : i < j) (gi : g.testBit i = false) (gj : g.testBit j = false) :
    0 ≤ gt T (g ||| 2 ^ i) + gt T (g ||| 2 ^ j) - gt T ((g ||| 2 ^ i) ||| (g ||| 2 ^ j)) - gt T g := by
  have pi : 2 ^ i < 2 ^ h := Nat.pow_lt_pow_right (by omega) hi
  have pj : 2 ^ j < 2 ^ h := Nat.pow_lt_pow_right (by omega) hj
  have q := t.fall (g ||| 2 ^ i) (g ||| 2 ^ j) (Nat.or_lt_two_pow hg pi) (Nat.or_lt_two_pow hg pj)
  have e : (g ||| 2 ^ i) &&& (g ||| 2 ^ j) = g := by
    apply Nat.eq_of_testBit_eq
    intro k
    rw [Nat.testBit_and, Nat.testBit_or, Nat.testBit_or, Nat.testBit_two_pow, Nat.testBit_two_pow]
    by_cases h1 : i = k
    · by_cases h2 : j = k
      · omega
      · rw [decide_eq_false h2, Bool.or_false, ← h1, gi, Bool.and_false]
    · rw [decide_eq_false h1, Bool.or_false]
      cases g.testBit k <;> rfl
  rw [e] at q
  omega
/-! ### common shares -/
def mn (i j : Int) : Int := if j < i then j else i
theorem mn_l (i j : Int) : mn i j ≤ i := by
  unfold mn
  split <;> omega
theorem mn_r (i j : Int) : mn i j ≤ j := by
  unfold mn
  split <;> omega
theorem mn_or (i j : Int) : mn i j = i ∨ mn i j = j := by
  unfold mn
  split
  · exact .inr rfl
  · exact .inl rfl
def fixF (A : List Int) (x : Int) (g : Nat) : Int := mn (gt A (2 * g)) (gt A (2 * g + 1) - x)
def fixL (h : Nat) (A : List Int) (x : Int) : List Int := tabL (2 ^ h) (fixF A x)
theorem dbl_or (a b : Nat) (i j : Nat) (hi : i < 2) (hj : j < 2) : (2 * a + i) ||| (2 * b + j) = 2 * (a ||| b) + (if i = 0 ∧ j = 0 then 0 else 1) := by
  have e := @Nat.or_div_two (2 * a + i) (2 * b + j)
  have f := @Nat.or_mod_two_eq_one (2 * a + i) (2 * b + j)
  rw [show (2 * a + i) / 2 = a by omega, show (2 * b + j) / 2 = b by omega] at e
  have m := Nat.mod_lt ((2 * a + i) ||| (2 * b + j)) (show 0 < 2 by omega)
  generalize (2 * a + i) ||| (2 * b + j) = z at e f m
  generalize a ||| b = y at e
  split
  · have : ¬ z % 2 = 1 := fun q => by
      have := f.mp q
      omega
    omega
  · have : z % 2 = 1 := f.mpr (by omega)
    omega
theorem dbl_and (a b : Nat) (i j : Nat) (hi : i < 2) (hj : j < 2) : (2 * a + i) &&& (2 * b + j) = 2 * (a &&& b) + (if i = 1 ∧ j = 1 then 1 else 0) := by
  have e := @Nat.and_div_two (2 * a + i) (2 * b + j)
  have f := @Nat.and_mod_two_eq_one (2 * a + i) (2 * b + j)
  rw [show (2 * a + i) / 2 = a by omega, show (2 * b + j) / 2 = b by omega] at e
  have m := Nat.mod_lt ((2 * a + i) &&& (2 * b + j)) (show 0 < 2 by omega)
  generalize (2 * a + i) &&& (2 * b + j) = z at e f m
  generalize a &&& b = y at e
  split
  · have : z % 2 = 1 := f.mpr (by omega)
    omega
  · have : ¬ z % 2 = 1 := fun q => by
      have := f.mp q
      omega
    omega
theorem pow_s (h : Nat) : 2 ^ (h + 1) = 2 * 2 ^ h := by rw [Nat.pow_succ]; omega
theorem tab_mono2 {h : Nat} {A : List Int} (t : Tab (h + 1) A) {a b : Nat} (ha : a < 2 ^ h) (hb : b < 2 ^ h) (i j : Nat) (hi : i < 2) (hj : j < 2) :
    gt A (2 * (a ||| b) + (if i = 0 ∧ j = 0 then 0 else 1)) + gt A (2 * (a &&& b) + (if i = 1 ∧ j = 1 then 1 else 0)) ≤ gt A (2 * a + i) + gt A (2 * b + j) := by
  have p := pow_s h
  have q := t.fall (2 * a + i) (2 * b + j) (by omega) (by omega)
  rw [dbl_or a b i j hi hj, dbl_and a b i j hi hj] at q
  exact q
theorem tab_fix {h : Nat} {A : List Int} {x : Int} (t : Tab (h + 1) A) (hx : x ≤ gt A 1) : Tab h (fixL h A x) := by
  refine tab_of ?_ fun a b ha hb => ?_
  · have z := t.zero
    show mn (gt A 0) (gt A 1 - x) = 0
    unfold mn
    rw [if_neg (by omega), z]
  · have q00 := tab_mono2 t ha hb 0 0 (by omega) (by omega)
    have q01 := tab_mono2 t ha hb 0 1 (by omega) (by omega)
    have q10 := tab_mono2 t ha hb 1 0 (by omega) (by omega)
    have q11 := tab_mono2 t ha hb 1 1 (by omega) (by omega)
    simp only [Nat.add_zero, and_self, if_true, Nat.one_ne_zero, Nat.zero_ne_one, and_false, false_and, if_false] at q00 q01 q10 q11
    have l1 := mn_l (gt A (2 * (a ||| b))) (gt A (2 * (a ||| b) + 1) - x)
    have l2 := mn_r (gt A (2 * (a ||| b))) (gt A (2 * (a ||| b) + 1) - x)
    have l3 := mn_l (gt A (2 * (a &&& b))) (gt A (2 * (a &&& b) + 1) - x)
    have l4 := mn_r (gt A (2 * (a &&& b))) (gt A (2 * (a &&& b) + 1) - x)
    unfold fixF
    rcases mn_or (gt A (2 * a)) (gt A (2 * a + 1) - x) with e | e <;> rcases mn_or (gt A (2 * b)) (gt A (2 * b + 1) - x) with f | f <;> rw [e, f] <;> omega
def Part (h : Nat) (A B : List Int) (m : Int) : Prop := ∀ g, g < 2 ^ h → m ≤ gt A g + gt B (2 ^ h - 1 - g)
theorem co_or {h a b : Nat} (ha : a < 2 ^ h) (hb : b < 2 ^ h) : (2 ^ h - 1 - a) ||| (2 ^ h - 1 - b) = 2 ^ h - 1 - (a &&& b) := by
  rw [show 2 ^ h - 1 - a = 2 ^ h - (a + 1) by omega, show 2 ^ h - 1 - b = 2 ^ h - (b + 1) by omega, show 2 ^ h - 1 - (a &&& b) = 2 ^ h - ((a &&& b) + 1) by omega]
  apply Nat.eq_of_testBit_eq
  intro k
  rw [Nat.testBit_or, Nat.testBit_two_pow_sub_succ ha, Nat.testBit_two_pow_sub_succ hb, Nat.testBit_two_pow_sub_succ (Nat.and_lt_two_pow a hb), Nat.testBit_and]
  cases decide (k < h) <;> cases a.testBit k <;> cases b.testBit k <;> rfl
theorem co_and {h a b : Nat} (ha : a < 2 ^ h) (hb : b < 2 ^ h) : (2 ^ h - 1 - a) &&& (2 ^ h - 1 - b) = 2 ^ h - 1 - (a ||| b) := by
  rw [show 2 ^ h - 1 - a = 2 ^ h - (a + 1) by omega, show 2 ^ h - 1 - b = 2 ^ h - (b + 1) by omega, show 2 ^ h - 1 - (a ||| b) = 2 ^ h - ((a ||| b) + 1) by omega]
  apply Nat.eq_of_testBit_eq
  intro k
  rw [Nat.testBit_and, Nat.testBit_two_pow_sub_succ ha, Nat.testBit_two_pow_sub_succ hb, Nat.testBit_two_pow_sub_succ (Nat.or_lt_two_pow ha hb), Nat.testBit_or]
  cases decide (k < h) <;> cases a.testBit k <;> cases b.testBit k <;> rfl
/-- the first hand's share: where it comes from -/
structure RoomOf (h : Nat) (A B : List Int) (m x : Int) : Prop where
  a : x ≤ gt A 1
  b : x ≤ gt B 1
  le : ∀ s, s < 2 ^ h → x ≤ gt A (2 * s + 1) + gt B (2 * (2 ^ h - 1 - s) + 1) - m
  eq : x = gt A 1 ∨ x = gt B 1 ∨ ∃ s, s < 2 ^ h ∧ x = gt A (2 * s + 1) + gt B (2 * (2 ^ h - 1 - s) + 1) - m
theorem part_fix {h : Nat} {A B : List Int} {m x : Int} (tA : Tab (h + 1) A) (tB : Tab (h + 1) B) (p : Part (h + 1) A B m) (r : RoomOf h A B m x) : Part h (fixL h A x) (fixL h B x) (m - x) := by
  intro g hg
  have ps := pow_s h
  have hc : 2 ^ h - 1 - g < 2 ^ h := by omega
  rw [fixL, gt_tabL _ hg, fixL, gt_tabL _ hc]
  unfold fixF
  -- the partings above
  have pe : ∀ s, s < 2 ^ h → m ≤ gt A (2 * s) + gt B (2 * (2 ^ h - 1 - s) + 1) := fun s hs => by
    have q := p (2 * s) (by omega)
    rw [show 2 ^ (h + 1) - 1 - 2 * s = 2 * (2 ^ h - 1 - s) + 1 by omega] at q
    exact q
  have po : ∀ s, s < 2 ^ h → m ≤ gt A (2 * s + 1) + gt B (2 * (2 ^ h - 1 - s)) := fun s hs => by
    have q := p (2 * s + 1) (by omega)
    rw [show 2 ^ (h + 1) - 1 - (2 * s + 1) = 2 * (2 ^ h - 1 - s) by omega] at q
    exact q
  have e1 := pe g hg
  have e2 := po g hg
  have e3 := r.le g hg
  have key : m - x ≤ gt A (2 * g) + gt B (2 * (2 ^ h - 1 - g)) := by
    rcases r.eq with e | e | ⟨s, hs, e⟩
    · have q := tab_mono2 tA hg (Nat.two_pow_pos h) 0 1 (by omega) (by omega)
      simp only [Nat.add_zero, and_self, if_true, Nat.one_ne_zero, Nat.zero_ne_one, and_false, false_and, if_false, Nat.or_zero, Nat.and_zero, Nat.mul_zero, Nat.zero_add] at q
      have z := tA.zero
      omega
    · have q := tab_mono2 tB hc (Nat.two_pow_pos h) 0 1 (by omega) (by omega)
      simp only [Nat.add_zero, and_self, if_true, Nat.one_ne_zero, Nat.zero_ne_one, and_false, false_and, if_false, Nat.or_zero, Nat.and_zero, Nat.mul_zero, Nat.zero_add] at q
      have z := tB.zero
      omega
    · have hs' : 2 ^ h - 1 - s < 2 ^ h := by omega
      have q := tab_mono2 tA hg hs 0 1 (by omega) (by omega)
      have q' := tab_mono2 tB hc hs' 0 1 (by omega) (by omega)
      simp only [Nat.add_zero, and_self, if_true, Nat.one_ne_zero, Nat.zero_ne_one, and_false, false_and, if_false] at q q'
      rw [co_or hg hs, co_and hg hs] at q'
      have f1 := po (g ||| s) (Nat.or_lt_two_pow hg hs)
      have f2 := pe (g &&& s) (Nat.and_lt_two_pow g hs)
      omega
  rcases mn_or (gt A (2 * g)) (gt A (2 * g + 1) - x) with e | e <;> rcases mn_or (gt B (2 * (2 ^ h - 1 - g))) (gt B (2 * (2 ^ h - 1 - g) + 1) - x) with f | f <;> rw [e, f] <;> omega
def Under (h : Nat) (T r : List Int) : Prop := ∀ g, g < 2 ^ h → giv r g ≤ gt T g
theorem under_fix {h : Nat} {A r : List Int} {x : Int} (hr : r.length ≤ 5) (u : Under h (fixL h A x) r) : Under (h + 1) A (x :: r) := by
  intro g hg
  have ps := pow_s h
  have q := u (g / 2) (by omega)
  rw [fixL, gt_tabL _ (show g / 2 < 2 ^ h by omega)] at q
  unfold fixF at q
  have l1 := mn_l (gt A (2 * (g / 2))) (gt A (2 * (g / 2) + 1) - x)
  have l2 := mn_r (gt A (2 * (g / 2))) (gt A (2 * (g / 2) + 1) - x)
  rw [giv_cons x r g hr]
  by_cases e : g % 2 = 1
  · rw [if_pos e]
    rw [show 2 * (g / 2) + 1 = g by omega] at l2 q
    omega
  · rw [if_neg e]
    rw [show 2 * (g / 2) = g by omega] at l1 q
    omega
theorem under_one {A : List Int} {m : Int} (z : gt A 0 = 0) (h : m ≤ gt A 1) : Under 1 A [m] := by
  intro g hg
  have hg2 : g < 2 := hg
  have : g = 0 ∨ g = 1 := by omega
  rcases this with rfl | rfl
  · rw [z, giv_zero]
    exact Int.le_refl _
  · rw [giv_cons m [] 1 (by decide)]
    show m + giv [] 0 ≤ _
    rw [giv_zero]
    omega
/-! ### the law's tables -/
theorem pc_mod : ∀ a, a < 64 → ∀ b, b < 64 → pc (a ||| b) + pc (a &&& b) = pc a + pc b := by decide +kernel
theorem pc_le : ∀ a, a < 64 → ∀ b, b < 64 → pc (a &&& b) ≤ pc a ∧ pc (a &&& b) ≤ pc b := by decide +kernel
theorem pc_lt : ∀ a, a < 64 → ∀ b, b < 64 → (a &&& b = a ∧ a ||| b = b) ∨ (a &&& b = b ∧ a ||| b = a) ∨ (pc (a &&& b) < pc a ∧ pc (a &&& b) < pc b) := by decide +kernel
theorem pc_6 : ∀ a, a < 64 → pc a ≤ 6 := by decide +kernel
theorem pow_le64 {h : Nat} (hh : h ≤ 6) : 2 ^ h ≤ 64 := Nat.pow_le_pow_right (n := 2) (by omega) hh
def cap (part most g : Nat) : Nat := min (pc (g &&& part)) most
theorem and_or_and (a b p : Nat) : (a ||| b) &&& p = (a &&& p) ||| (b &&& p) := by
  apply Nat.eq_of_testBit_eq
  intro k
  rw [Nat.testBit_and, Nat.testBit_or, Nat.testBit_or, Nat.testBit_and, Nat.testBit_and]
  cases a.testBit k <;> cases b.testBit k <;> cases p.testBit k <;> rfl
theorem and_and_and (a b p : Nat) : (a &&& b) &&& p = (a &&& p) &&& (b &&& p) := by
  apply Nat.eq_of_testBit_eq
  intro k
  rw [Nat.testBit_and, Nat.testBit_and, Nat.testBit_and, Nat.testBit_and, Nat.testBit_and]
  cases a.testBit k <;> cases b.testBit k <;> cases p.testBit k <;> rfl
theorem cap_fall {a b p m : Nat} (ha : a < 64) (hb : b < 64) : cap p m (a ||| b) + cap p m (a &&& b) ≤ cap p m a + cap p m b := by
  have la : a &&& p < 64 := Nat.lt_of_le_of_lt Nat.and_le_left ha
  have lb : b &&& p < 64 := Nat.lt_of_le_of_lt Nat.and_le_left hb
  have e := pc_mod (a &&& p) la (b &&& p) lb
  have l := pc_le (a &&& p) la (b &&& p) lb
  unfold cap
  rw [and_or_and, and_and_and]
  omega
theorem cap_zero (p m : Nat) : cap p m 0 = 0 := by
  unfold cap
  rw [Nat.zero_and]
  show min 0 m = 0
  omega
theorem cap_le (p m g : Nat) : cap p m g ≤ m := by
  unfold cap
  omega
def capF (T : List Int) (w : Int) (p m : Nat) (g : Nat) : Int := gt T g + w * (cap p m g : Nat)
theorem tab_cap {h : Nat} (hh : h ≤ 6) {T : List Int} (t : Tab h T) {w : Int} (hw : 0 ≤ w) (p m : Nat) : Tab h (tabL (2 ^ h) (capF T w p m)) := by
  have l := pow_le64 hh
  refine tab_of ?_ fun a b ha hb => ?_
  · unfold capF
    rw [t.zero, cap_zero]
    show 0 + w * 0 = 0
    rw [Int.mul_zero, Int.add_zero]
  · have q := t.fall a b ha hb
    have c := cap_fall (p := p) (m := m) (show a < 64 by omega) (show b < 64 by omega)
    have c2 : w * ((cap p m (a ||| b) : Nat) + (cap p m (a &&& b) : Nat) : Int) ≤ w * ((cap p m a : Nat) + (cap p m b : Nat) : Int) := Int.mul_le_mul_of_nonneg_left (by omega) hw
    rw [Int.mul_add, Int.mul_add] at c2
    unfold capF
    omega
theorem mul_cap_bd {w W : Int} {c m : Nat} (h0 : 0 ≤ w) (h1 : w ≤ W) (hc : c ≤ m) : 0 ≤ w * (c : Nat) ∧ w * (c : Nat) ≤ W * (m : Nat) :=
  ⟨Int.mul_nonneg h0 (by omega), Int.mul_le_mul h1 (by omega) (by omega) (by omega)⟩
theorem tab_scale {h : Nat} {T : List Int} (t : Tab h T) {w : Int} (hw : 0 ≤ w) : Tab h (tabL (2 ^ h) fun g => gt T g * w) := by
  refine tab_of ?_ fun a b ha hb => ?_
  · show gt T 0 * w = 0
    rw [t.zero, Int.zero_mul]
  · have q := Int.mul_le_mul_of_nonneg_right (t.fall a b ha hb) hw
    rw [Int.add_mul, Int.add_mul] at q
    exact q
theorem sq_id (w u p q : Int) : w * (u + p + q) * (u + p + q) + w * u * u = w * (u + p) * (u + p) + w * (u + q) * (u + q) + 2 * (w * p * q) := by
  simp only [Int.mul_add, Int.add_mul]
  simp only [Int.mul_assoc]
  rw [Int.mul_comm p u, Int.mul_comm q u, Int.mul_comm q p]
  omega
theorem tab_noise {h : Nat} (hh : h ≤ 6) {T : List Int} {w : Int} (hl : T.length = 2 ^ h) (z : gt T 0 = 0) (hw : 0 < w)
    (hT : ∀ g, g < 2 ^ h → ∃ r, 0 ≤ r ∧ r < w ∧ gt T g = r - w * (pc g : Nat) * (pc g : Nat)) : Tab h T := by
  refine ⟨hl, z, fun a b ha hb => ?_⟩
  have l := pow_le64 hh
  have a64 : a < 64 := by omega
  have b64 : b < 64 := by omega
  rcases pc_lt a a64 b b64 with ⟨e1, e2⟩ | ⟨e1, e2⟩ | ⟨e1, e2⟩
  · rw [e1, e2]
    omega
  · rw [e1, e2]
    omega
  · obtain ⟨r1, p1, q1, f1⟩ := hT (a ||| b) (Nat.or_lt_two_pow ha hb)
    obtain ⟨r2, p2, q2, f2⟩ := hT (a &&& b) (Nat.and_lt_two_pow a hb)
    obtain ⟨r3, p3, q3, f3⟩ := hT a ha
    obtain ⟨r4, p4, q4, f4⟩ := hT b hb
    have m := pc_mod a a64 b b64
    rw [f1, f2, f3, f4]
    generalize pc (a ||| b) = v at *
    generalize pc (a &&& b) = u at *
    generalize pc a = s at *
    generalize pc b = t at *
    obtain ⟨p, rfl⟩ : ∃ p, s = u + p := ⟨s - u, by omega⟩
    obtain ⟨q, rfl⟩ : ∃ q, t = u + q := ⟨t - u, by omega⟩
    obtain rfl : v = u + p + q := by omega
    have i := sq_id w u p q
    have pq : w * 1 ≤ w * ((p : Int) * q) := Int.mul_le_mul_of_nonneg_left (by
      have : 1 * 1 ≤ p * q := Nat.mul_le_mul (by omega) (by omega)
      have h2 : ((p * q : Nat) : Int) = (p : Int) * q := Int.natCast_mul p q
      omega) (by omega)
    rw [Int.mul_one, ← Int.mul_assoc] at pq
    simp only [Int.natCast_add] at *
    omega
end Gc
namespace Gc
open PySem PySem.Spec PyProof.Rows L2
def top (i : Nat) : Stmt := PySem.Challenge.pw_groupcost_k56_whole_prices_as_a_table.main.body.getD i (.Pass ⟨0, 0, 0, 0⟩)
abbrev FnP (K : PySem.W.Frag) (x : Str) (st : Stmt) (f : Addr) (fd : FuncData) : Prop := FunD K x x (defArgs st) (defBody st) (defScope st) [] [] f fd
/-- a def that may be called by its name, with its promise -/
structure Cl (P : Program) (w : World) (K : PySem.W.Frag) (mg : Str → Option Value) (base : Heap) (k : Nat) (x : Str) (ps : List Str) (sp : Sp) : Prop where
  ex : ∃ (f : Addr) (fd : FuncData), mg x = some (.ref f) ∧ PySem.W.keepIn K (.ref f) = true ∧ Binds K fd ps [] ∧ FnOk P w K mg base CX0 k f fd ps sp
/-- a def as the text has it, its name, its binding -/
structure Df (K : PySem.W.Frag) (mg : Str → Option Value) (x : Str) (st : Stmt) (ps : List Str) (f : Addr) (fd : FuncData) : Prop where
  F : FnP K x st f fd
  g : mg x = some (.ref f)
  b : Binds K fd ps []
/-- the built-ins that the text names -/
structure Bl (mg : Str → Option Value) : Prop where
  len : mg "len" = none
  range : mg "range" = none
  sum : mg "sum" = none
  min : mg "min" = none
  list : mg "list" = none
  isinstance : mg "isinstance" = none
  int : mg "int" = none
  bool : mg "bool" = none
  enumerate : mg "enumerate" = none
theorem b_list : bootBuiltins "list" = some (.type "list") := by decide +kernel
theorem b_int : bootBuiltins "int" = some (.type "int") := by decide +kernel
theorem b_bool : bootBuiltins "bool" = some (.type "bool") := by decide +kernel
theorem b_isinstance : bootBuiltins "isinstance" = some (.builtin "isinstance") := by decide +kernel
theorem Df.cl {P : Program} {w : World} {K : PySem.W.Frag} {mg : Str → Option Value} {base : Heap} {k : Nat} {x : Str} {st : Stmt} {ps : List Str} {f : Addr} {fd : FuncData} {sp : Sp} (D : Df K mg x st ps f fd)
    (G : FnOk P w K mg base CX0 k f fd ps sp) : Cl P w K mg base k x ps sp := ⟨f, fd, D.g, D.F.kp, D.b, G⟩
section
variable {X : Cx} {k : Nat} {ps : List Str} {sp : Sp} {x : Str} {p pos : Pos} {e : Expr} {es : List Expr} {t : TA}
theorem pe_cl (C : Cl X.prog X.w X.K X.mg X.base k x ps sp) (hr : Room k X.A) (hg : Gl X x) (ha : PA X (e :: es) t) (hdb : (x == ("__debug__" : Str)) = false := by decide)
    (he : starEach (e :: es) X.env = (false, eval e X.env) :: starEach es X.env := by rfl) (hpl : (backTo pos (starEach es X.env)).any (·.1) = false := by rfl) :
    PE X (.Call (.Name x p) (e :: es) [] pos) (tCall sp [] E0 t) := by
  obtain ⟨f, fd, g, kp, b, F⟩ := C.ex
  exact pe_call F hr hg g kp b .nil pass0 ha hdb he hpl
/-! ### operators on numbers that are not negative -/
theorem op_andNN : OpR X (binaryOp .BitAnd) (fun x y H Q => ∃ n m : Nat, x = .int (n : Int) ∧ y = .int (m : Int) ∧ Q (.int ((n &&& m : Nat) : Int)) H) := fun pins s σ H x y v u Q I rx ry ⟨n, m, e1, e2, q⟩ =>
  op_and pins s σ H x y v u Q I rx ry ⟨n, m, e1, e2, by
    show Q (.int (Builtin.bitAnd (n : Int) (m : Int))) H
    rw [bitAnd_pp (by omega) (by omega), Int.toNat_natCast, Int.toNat_natCast]
    exact q⟩
theorem op_orNN : OpR X (binaryOp .BitOr) (fun x y H Q => ∃ n m : Nat, x = .int (n : Int) ∧ y = .int (m : Int) ∧ Q (.int ((n ||| m : Nat) : Int)) H) := fun pins s σ H x y v u Q I rx ry ⟨n, m, e1, e2, q⟩ =>
  op_or pins s σ H x y v u Q I rx ry ⟨n, m, e1, e2, by
    show Q (.int (Builtin.bitOr (n : Int) (m : Int))) H
    rw [bitOr_nn (by omega) (by omega), Int.toNat_natCast, Int.toNat_natCast]
    exact q⟩
theorem op_shrNN : OpR X (binaryOp .RShift) (fun x y H Q => ∃ n m : Nat, x = .int (n : Int) ∧ y = .int (m : Int) ∧ Q (.int ((n >>> m : Nat) : Int)) H) := fun pins s σ H x y v u Q I rx ry ⟨n, m, e1, e2, q⟩ =>
  op_shrN pins s σ H x y v u Q I rx ry ⟨n, m, e1, e2, by
    have e : (n : Int) / 2 ^ m = ((n >>> m : Nat) : Int) := by
      rw [Nat.shiftRight_eq_div_pow, Int.natCast_ediv, Int.natCast_pow] <;> rfl
    rw [e]
    exact q⟩
theorem op_oneShlN : OpR X (binaryOp .LShift) (fun x y H Q => ∃ m : Nat, x = .int 1 ∧ y = .int (m : Int) ∧ m ≤ 134217727 ∧ Q (.int ((2 ^ m : Nat) : Int)) H) := fun pins s σ H x y v u Q I rx ry ⟨m, e1, e2, h, q⟩ =>
  op_oneShl pins s σ H x y v u Q I rx ry ⟨m, e1, e2, h, by
    rw [Int.natCast_pow] at q
    exact q⟩
theorem op_modP : OpR X (binaryOp .Mod) (fun x y H Q => ∃ i j : Int, x = .int i ∧ y = .int j ∧ 0 < j ∧ Q (.int (i % j)) H) := op_mod
theorem op_powX : OpR X (binaryOp .Pow) (fun x y H Q => ∃ i j : Int, x = .int i ∧ y = .int j ∧ (0 ≤ j ∧ (Builtin.Int.intBits i : Int) * j ≤ 2 ^ 27) ∧ Q (.int (i ^ j.toNat)) H) :=
  opI (C := fun i j => 0 ≤ j ∧ (Builtin.Int.intBits i : Int) * j ≤ 2 ^ 27) fun _ _ _ _ _ _ _ hc q => pow_int hc.1 hc.2 q
end
def lenR (K : PySem.W.Frag) : List V → Hp → VK → Prop := fun xs H Q => ∃ p ys, xs = [.ref p] ∧ (SqL K H p ys ∨ SqT K H p ys) ∧ Q (.int ys.length) H
theorem call_lenK {X : Cx} : CallR X (.builtin "len") (lenR X.K) := call_len_seq
theorem rng_lo {n : Nat} : -(2 ^ 62) ≤ (n : Int) := by omega
theorem rng_hi {n : Nat} (h : n ≤ 16777216) : (n : Int) < 2 ^ 62 := by omega
theorem bit_eq (n k : Nat) : decide (V.int (((n >>> k) &&& 1 : Nat) : Int) = V.int 1) = n.testBit k := by
  unfold Nat.testBit
  rw [Nat.and_comm 1]
  have h : (n >>> k) &&& 1 = 0 ∨ (n >>> k) &&& 1 = 1 := by
    rw [Nat.and_one_is_mod]
    omega
  rcases h with h | h <;> rw [h] <;> decide
/-! ### heaps -/
theorem same_new {H : Hp} {p : Addr} {o : HO} (h : H p = none) : Same H (upd H p o) := fun b x e => by
  rw [upd_ne (ne_of_none e h)]
  exact e
theorem same_put {H H1 : Hp} {p : Addr} {o : HO} (s : Same H H1) (h : H p = none) : Same H (upd H1 p o) := fun b x e => by
  rw [upd_ne (ne_of_none e h)]
  exact s b x e
/-! ### list comprehensions whose element may make objects -/
theorem snoc_range {α : Type} (b : Nat → Bool) (f : Nat → α) (i : Nat) : ((List.range (i + 1)).filter b).map f = ((List.range i).filter b).map f ++ (if b i then [f i] else []) := by
  rw [List.range_succ, List.filter_append, List.map_append]
  by_cases h : b i
  · rw [if_pos h, List.filter_cons_of_pos h]
    rfl
  · rw [if_neg h, List.filter_cons_of_neg h]
    rfl
theorem lc_rng {n slot : Nat} {tt : TT} {te : TE} {vs : List Nat} {σ : L2.St} {H1 : Hp} {D : Addr} {Qd : Hp → Prop} (b : Nat → Bool) (f : Nat → V) (hD : H1 D = none) (hn : n ≤ 16777216)
    (hw : ∀ v, wipe ((wipe σ vs).set slot (some v)) vs = wipe σ vs)
    (ht : ∀ (i : Nat) (H : Hp) (R : Bool → Hp → Prop), i < n → Same H1 H → (∀ H', Same H H' → R (b i) H') → tt ((wipe σ vs).set slot (some (.int (i : Int)))) H R)
    (he : ∀ (i : Nat) (H : Hp) (R : VK), i < n → b i = true → Same H1 H → (∀ H', Same H H' → R (f i) H') → te ((wipe σ vs).set slot (some (.int (i : Int)))) H R)
    (hd : ∀ H', Same H1 H' → H' D = some (.lst (((List.range n).filter b).map f)) → Qd H') :
    ∃ W : Nat → Nat → Hp → Prop, (∃ m, W 0 m (upd H1 D (.lst []))) ∧ ∀ i m H, W i m H →
      ((Itr 0 n).stop i H ∧ Qd H) ∨ ((Itr 0 n).go i H ∧ ∃ Nx : Hp → Prop, (∀ H', Nx H' → ∃ m', m' < m ∧ W (i + 1) m' H') ∧ ∀ x H', (Itr 0 n).yld i H x H' → gName slot x (wipe σ vs) H' fun σ2 H2 => wipe σ2 vs = wipe σ vs ∧ tt σ2 H2 fun b H3 =>
        if b = true then te σ2 H3 fun y H4 => ∃ acc, H4 D = some (.lst acc) ∧ acc.length < sizeLine ∧ Nx (upd H4 D (.lst (acc ++ [y]))) else Nx H3) := by
  refine lc_range (lo := 0) (n := n) (fun i H => i ≤ n ∧ Same H1 H ∧ H D = some (.lst (((List.range i).filter b).map f))) ⟨Nat.zero_le _, same_new hD, upd_same⟩ ?_ (fun H ⟨_, s, e⟩ => hd H s e)
  rintro i H hi ⟨_, s, e⟩
  show wipe ((wipe σ vs).set slot (some (.int (0 + (i : Int))))) vs = wipe σ vs ∧ tt ((wipe σ vs).set slot (some (.int (0 + (i : Int))))) H _
  rw [Int.zero_add]
  refine ⟨hw _, ht i H _ hi s fun H5 s5 => ?_⟩
  replace e := s5 _ _ e
  replace s := s.trans s5
  have l : ((List.range i).filter b).length ≤ i := by
    have := List.length_filter_le b (List.range i)
    rw [List.length_range] at this
    exact this
  by_cases hb : b i
  · rw [if_pos hb]
    refine he i H5 _ hi hb s fun H' s' => ⟨_, s' _ _ e, ?_, by omega, same_put (s.trans s') hD, ?_⟩
    · rw [List.length_map]
      have : sizeLine = 16777216 := rfl
      omega
    · rw [upd_same, snoc_range, if_pos hb]
  · rw [if_neg hb]
    refine ⟨by omega, s, ?_⟩
    rw [snoc_range, if_neg hb, List.append_nil]
    exact e
theorem filter_yes {α : Type} (l : List α) : l.filter (fun _ => true) = l := List.filter_eq_self.mpr fun _ _ => rfl
theorem lc_rngY {n slot : Nat} {te : TE} {vs : List Nat} {σ : L2.St} {H1 : Hp} {D : Addr} {Qd : Hp → Prop} (f : Nat → V) (hD : H1 D = none) (hn : n ≤ 16777216)
    (hw : ∀ v, wipe ((wipe σ vs).set slot (some v)) vs = wipe σ vs)
    (he : ∀ (i : Nat) (H : Hp) (R : VK), i < n → Same H1 H → (∀ H', Same H H' → R (f i) H') → te ((wipe σ vs).set slot (some (.int (i : Int)))) H R)
    (hd : ∀ H', Same H1 H' → H' D = some (.lst ((List.range n).map f)) → Qd H') :
    ∃ W : Nat → Nat → Hp → Prop, (∃ m, W 0 m (upd H1 D (.lst []))) ∧ ∀ i m H, W i m H →
      ((Itr 0 n).stop i H ∧ Qd H) ∨ ((Itr 0 n).go i H ∧ ∃ Nx : Hp → Prop, (∀ H', Nx H' → ∃ m', m' < m ∧ W (i + 1) m' H') ∧ ∀ x H', (Itr 0 n).yld i H x H' → gName slot x (wipe σ vs) H' fun σ2 H2 => wipe σ2 vs = wipe σ vs ∧ tYes σ2 H2 fun b H3 =>
        if b = true then te σ2 H3 fun y H4 => ∃ acc, H4 D = some (.lst acc) ∧ acc.length < sizeLine ∧ Nx (upd H4 D (.lst (acc ++ [y]))) else Nx H3) :=
  lc_rng (fun _ => true) f hD hn hw (fun _ H _ _ _ k => k H (Same.refl _)) (fun i H R hi _ s k => he i H R hi s k) fun H' s e => hd H' s (by rw [filter_yes] at e; exact e)
/-- over a list that stands at a -/
theorem lc_lst {K : PySem.W.Frag} {a : Addr} {xs : List V} {slot : Nat} {te : TE} {vs : List Nat} {σ : L2.St} {H1 : Hp} {D : Addr} {Qd : Hp → Prop} (f : V → V) (hA : SqL K H1 a xs) (hD : H1 D = none) (hn : xs.length ≤ 16777216)
    (hw : ∀ v, wipe ((wipe σ vs).set slot (some v)) vs = wipe σ vs)
    (he : ∀ (i : Nat) (x : V) (H : Hp) (R : VK), xs[i]? = some x → Same H1 H → (∀ H', Same H H' → R (f x) H') → te ((wipe σ vs).set slot (some x)) H R)
    (hd : ∀ H', Same H1 H' → H' D = some (.lst (xs.map f)) → Qd H') :
    ∃ W : Nat → Nat → Hp → Prop, (∃ m, W 0 m (upd H1 D (.lst []))) ∧ ∀ i m H, W i m H →
      ((Itl K a).stop i H ∧ Qd H) ∨ ((Itl K a).go i H ∧ ∃ Nx : Hp → Prop, (∀ H', Nx H' → ∃ m', m' < m ∧ W (i + 1) m' H') ∧ ∀ x H', (Itl K a).yld i H x H' → gName slot x (wipe σ vs) H' fun σ2 H2 => wipe σ2 vs = wipe σ vs ∧ tYes σ2 H2 fun b H3 =>
        if b = true then te σ2 H3 fun y H4 => ∃ acc, H4 D = some (.lst acc) ∧ acc.length < sizeLine ∧ Nx (upd H4 D (.lst (acc ++ [y]))) else Nx H3) := by
  refine lc_list (K := K) (a := a) (xs := xs) (fun i H => i ≤ xs.length ∧ Same H1 H ∧ H D = some (.lst ((xs.take i).map f))) ⟨Nat.zero_le _, same_new hD, upd_same⟩ (fun i H _ ⟨_, s, _⟩ => s.seq hA) ?_ (fun H ⟨_, s, e⟩ => hd H s (by rw [List.take_length] at e; exact e))
  rintro i x H hx ⟨_, s, e⟩
  have hi := (List.getElem?_eq_some_iff.mp hx).1
  refine ⟨hw _, ?_⟩
  refine he i x H _ hx s fun H' s' => ⟨_, s' _ _ e, ?_, by omega, same_put (s.trans s') hD, ?_⟩
  · rw [List.length_map, List.length_take]
    have : sizeLine = 16777216 := rfl
    omega
  · rw [upd_same, List.take_add_one, hx, List.map_append]
    rfl
theorem lc_rngJ {j : Int} {n slot : Nat} {tt : TT} {te : TE} {vs : List Nat} {σ : L2.St} {H1 : Hp} {D : Addr} {Qd : Hp → Prop} (hj : j = (n : Int)) (b : Nat → Bool) (f : Nat → V) (hD : H1 D = none) (hn : n ≤ 16777216)
    (hw : ∀ v, wipe ((wipe σ vs).set slot (some v)) vs = wipe σ vs)
    (ht : ∀ (i : Nat) (H : Hp) (R : Bool → Hp → Prop), i < n → Same H1 H → (∀ H', Same H H' → R (b i) H') → tt ((wipe σ vs).set slot (some (.int (i : Int)))) H R)
    (he : ∀ (i : Nat) (H : Hp) (R : VK), i < n → b i = true → Same H1 H → (∀ H', Same H H' → R (f i) H') → te ((wipe σ vs).set slot (some (.int (i : Int)))) H R)
    (hd : ∀ H', Same H1 H' → H' D = some (.lst (((List.range n).filter b).map f)) → Qd H') :
    ∃ W : Nat → Nat → Hp → Prop, (∃ m, W 0 m (upd H1 D (.lst []))) ∧ ∀ i m H, W i m H →
      ((Itr 0 j.toNat).stop i H ∧ Qd H) ∨ ((Itr 0 j.toNat).go i H ∧ ∃ Nx : Hp → Prop, (∀ H', Nx H' → ∃ m', m' < m ∧ W (i + 1) m' H') ∧ ∀ x H', (Itr 0 j.toNat).yld i H x H' → gName slot x (wipe σ vs) H' fun σ2 H2 => wipe σ2 vs = wipe σ vs ∧ tt σ2 H2 fun b H3 =>
        if b = true then te σ2 H3 fun y H4 => ∃ acc, H4 D = some (.lst acc) ∧ acc.length < sizeLine ∧ Nx (upd H4 D (.lst (acc ++ [y]))) else Nx H3) := by
  subst hj
  exact lc_rng b f hD hn hw ht he hd
theorem lc_rngYJ {j : Int} {n slot : Nat} {te : TE} {vs : List Nat} {σ : L2.St} {H1 : Hp} {D : Addr} {Qd : Hp → Prop} (hj : j = (n : Int)) (f : Nat → V) (hD : H1 D = none) (hn : n ≤ 16777216)
    (hw : ∀ v, wipe ((wipe σ vs).set slot (some v)) vs = wipe σ vs)
    (he : ∀ (i : Nat) (H : Hp) (R : VK), i < n → Same H1 H → (∀ H', Same H H' → R (f i) H') → te ((wipe σ vs).set slot (some (.int (i : Int)))) H R)
    (hd : ∀ H', Same H1 H' → H' D = some (.lst ((List.range n).map f)) → Qd H') :
    ∃ W : Nat → Nat → Hp → Prop, (∃ m, W 0 m (upd H1 D (.lst []))) ∧ ∀ i m H, W i m H →
      ((Itr 0 j.toNat).stop i H ∧ Qd H) ∨ ((Itr 0 j.toNat).go i H ∧ ∃ Nx : Hp → Prop, (∀ H', Nx H' → ∃ m', m' < m ∧ W (i + 1) m' H') ∧ ∀ x H', (Itr 0 j.toNat).yld i H x H' → gName slot x (wipe σ vs) H' fun σ2 H2 => wipe σ2 vs = wipe σ vs ∧ tYes σ2 H2 fun b H3 =>
        if b = true then te σ2 H3 fun y H4 => ∃ acc, H4 D = some (.lst acc) ∧ acc.length < sizeLine ∧ Nx (upd H4 D (.lst (acc ++ [y]))) else Nx H3) := by
  subst hj
  exact lc_rngY f hD hn hw he hd
/-- for .. in range(j) -/
theorem for_rngJ {j : Int} {n slot : Nat} {tb : TS} {D : Ends} {σ : L2.St} {H : Hp} (hj : j = (n : Int)) (Pv : Nat → L2.St → Hp → Prop) (h0 : Pv 0 σ H)
    (hs : ∀ i σ H, i < n → Pv i σ H → tb { D with nx := Pv (i + 1), ct := Pv (i + 1), bk := D.nx } (σ.set slot (some (.int (i : Int)))) H) (hd : ∀ σ H, Pv n σ H → D.nx σ H) :
    ∃ W : Nat → Nat → L2.St → Hp → Prop, (∃ m, W 0 m σ H) ∧ ∀ i m σ H, W i m σ H →
      ((Itr 0 j.toNat).stop i H ∧ D.nx σ H) ∨ ((Itr 0 j.toNat).go i H ∧ ∃ N : L2.St → Hp → Prop, (∀ σ' H', N σ' H' → ∃ m', m' < m ∧ W (i + 1) m' σ' H') ∧ ∀ x H', (Itr 0 j.toNat).yld i H x H' → gName slot x σ H' fun σ2 H2 => tb { D with nx := N, ct := N, bk := D.nx } σ2 H2) := by
  subst hj
  refine for_range (lo := 0) (n := n) Pv h0 (fun i σ H hi p => ?_) hd
  show tb _ (σ.set slot (some (.int (0 + (i : Int))))) H
  rw [Int.zero_add]
  exact hs i σ H hi p
theorem tabL_succ (n : Nat) (f : Nat → Int) : tabL (n + 1) f = tabL n f ++ [f n] := by
  unfold tabL
  rw [List.range_succ, List.map_append]
  rfl
theorem mem_tabL {n : Nat} {f : Nat → Int} {m : Int} (h : m ∈ tabL n f) : ∃ g, g < n ∧ m = f g := by
  unfold tabL at h
  obtain ⟨g, hg, e⟩ := List.mem_map.mp h
  exact ⟨g, List.mem_range.mp hg, e.symm⟩
theorem tabL_mem {n g : Nat} (f : Nat → Int) (h : g < n) : f g ∈ tabL n f := List.mem_map.mpr ⟨g, List.mem_range.mpr h, rfl⟩
theorem least (p : Nat → Prop) [DecidablePred p] : ∀ n, p n → ∃ j, j ≤ n ∧ p j ∧ ∀ i, i < j → ¬ p i := by
  intro n
  induction n using Nat.strongRecOn with
  | _ n ih =>
    intro hn
    by_cases h : ∃ i, i < n ∧ p i
    · obtain ⟨i, hi, pi⟩ := h
      obtain ⟨j, hj, pj, l⟩ := ih i hi pi
      exact ⟨j, by omega, pj, l⟩
    · exact ⟨n, Nat.le_refl _, hn, fun i hi pi => h ⟨i, hi, pi⟩⟩
theorem bit_eq0 (n k : Nat) : decide (V.int (((n >>> k) &&& 1 : Nat) : Int) = V.int 0) = !n.testBit k := by
  unfold Nat.testBit
  rw [Nat.and_comm 1]
  have h : (n >>> k) &&& 1 = 0 ∨ (n >>> k) &&& 1 = 1 := by
    rw [Nat.and_one_is_mod]
    omega
  rcases h with h | h <;> rw [h] <;> decide
/-! ### lists of ints -/
theorem ints_at {T : List Int} {g : Nat} (h : g < T.length) : (T.map V.int)[g]? = some (.int (gt T g)) := by
  rw [List.getElem?_map, List.getElem?_eq_getElem h]
  unfold gt
  rw [List.getD_eq_getElem?_getD, List.getElem?_eq_getElem h]
  rfl
theorem ints_atI {T : List Int} {g : Nat} (h : g < T.length) : atI (T.map V.int) (g : Int) = some (.int (gt T g)) := atI_nat (ints_at h)
theorem nats_at {l : List Nat} {i : Nat} {v : V} (h : (l.map fun (k : Nat) => V.int (k : Int))[i]? = some v) : ∃ k, l[i]? = some k ∧ v = .int (k : Int) := by
  rw [List.getElem?_map] at h
  cases e : l[i]? with
  | none =>
    rw [e] at h
    cases h
  | some k =>
    rw [e] at h
    exact ⟨k, rfl, (Option.some.inj h).symm⟩
theorem map_int {n : Nat} (f : Nat → Int) : (List.range n).map (fun i => V.int (f i)) = (tabL n f).map V.int := by
  unfold tabL
  rw [List.map_map]
  rfl
theorem gt_snoc {T : List Int} {v : Int} {g : Nat} (h : g < T.length) : gt (T ++ [v]) g = gt T g := by
  unfold gt
  rw [List.getD_eq_getElem?_getD, List.getD_eq_getElem?_getD, List.getElem?_append_left h]
theorem gt_last {T : List Int} {v : Int} : gt (T ++ [v]) T.length = v := by
  unfold gt
  rw [List.getD_eq_getElem?_getD, List.getElem?_append_right (Nat.le_refl _), Nat.sub_self]
  rfl
theorem gt_mem {T : List Int} {g : Nat} (h : g < T.length) : gt T g ∈ T := by
  unfold gt
  rw [List.getD_eq_getElem?_getD, List.getElem?_eq_getElem h]
  exact List.getElem_mem h
theorem ints_get {T : List Int} {i : Nat} {v : V} (h : (T.map V.int)[i]? = some v) : i < T.length ∧ v = .int (gt T i) := by
  have hi := (List.getElem?_eq_some_iff.mp h).1
  rw [List.length_map] at hi
  rw [ints_at hi] at h
  exact ⟨hi, (Option.some.inj h).symm⟩
theorem ixN_nat {n j : Nat} (h : j < n) : ixN n (j : Int) = some j := by
  unfold ixN
  rw [if_pos (by omega), if_pos (by omega)]
  rfl
theorem map_set {T : List Int} {j : Nat} {v : Int} : (T.map V.int).set j (.int v) = (T.set j v).map V.int := by rw [List.map_set]
theorem giv_len (r : List Int) (n : Nat) (h : r.length ≤ 6) : (((List.range r.length).filter fun k => n.testBit k).map (gt r)).sum = giv r n := by
  have key : ∀ d, ((List.range (r.length + d)).map fun k => if n.testBit k then gt r k else 0).sum = ((List.range r.length).map fun k => if n.testBit k then gt r k else 0).sum := by
    intro d
    induction d with
    | zero => rfl
    | succ d ih =>
      rw [← Nat.add_assoc, List.range_succ, List.map_append, List.sum_append, ih]
      have e : gt r (r.length + d) = 0 := getD_out (by omega)
      show _ + ((if n.testBit (r.length + d) then gt r (r.length + d) else 0) + 0) = _
      rw [e]
      split <;> omega
  have k6 := key (6 - r.length)
  rw [show r.length + (6 - r.length) = 6 by omega] at k6
  unfold giv hin
  rw [sum_filter, sum_filter, ← k6]
  rfl
/-- over enumerate of a list that stands at a -/
theorem lc_enum {K : PySem.W.Frag} {a : Addr} {xs : List V} {s1 s2 : Nat} {te : TE} {vs : List Nat} {σ : L2.St} {H1 : Hp} {D : Addr} {Qd : Hp → Prop} (f : Nat → V) (hA : SqL K H1 a xs) (hD : H1 D = none) (hn : xs.length ≤ 16777216)
    (hw : ∀ v u, wipe (((wipe σ vs).set s1 (some v)).set s2 (some u)) vs = wipe σ vs)
    (he : ∀ (i : Nat) (x : V) (H : Hp) (R : VK), xs[i]? = some x → Same H1 H → (∀ H', Same H H' → R (f i) H') → te (((wipe σ vs).set s1 (some (.int (i : Int)))).set s2 (some x)) H R)
    (hd : ∀ H', Same H1 H' → H' D = some (.lst ((List.range xs.length).map f)) → Qd H') :
    ∃ W : Nat → Nat → Hp → Prop, (∃ m, W 0 m (upd H1 D (.lst []))) ∧ ∀ i m H, W i m H →
      ((Ite K a).stop i H ∧ Qd H) ∨ ((Ite K a).go i H ∧ ∃ Nx : Hp → Prop, (∀ H', Nx H' → ∃ m', m' < m ∧ W (i + 1) m' H') ∧ ∀ x H', (Ite K a).yld i H x H' → gTup K 2 (gCons (gName s1) (gCons (gName s2) gNil)) x (wipe σ vs) H' fun σ2 H2 => wipe σ2 vs = wipe σ vs ∧ tYes σ2 H2 fun b H3 =>
        if b = true then te σ2 H3 fun y H4 => ∃ acc, H4 D = some (.lst acc) ∧ acc.length < sizeLine ∧ Nx (upd H4 D (.lst (acc ++ [y]))) else Nx H3) := by
  refine ⟨fun i m H => m = xs.length - i ∧ i ≤ xs.length ∧ Same H1 H ∧ H D = some (.lst ((List.range i).map f)), ⟨xs.length, rfl, Nat.zero_le _, same_new hD, upd_same⟩, ?_⟩
  rintro i m H ⟨rfl, hi, s, e⟩
  have hA' : SqL K H a xs := s.seq hA
  by_cases hlt : i < xs.length
  · refine .inr ⟨⟨xs, _, hA', List.getElem?_eq_getElem hlt⟩, fun H' => i + 1 ≤ xs.length ∧ Same H1 H' ∧ H' D = some (.lst ((List.range (i + 1)).map f)), fun H' hN => ⟨xs.length - (i + 1), by omega, rfl, hN⟩, ?_⟩
    rintro v H' ⟨T, x, rfl, nT, rfl, hx⟩
    have ex := hx xs hA'
    refine ⟨T, _, rfl, SqT.of upd_same, rfl, _, _, rfl, _, _, rfl, rfl, hw _ _, ?_⟩
    have sT : Same H (upd H T (.tup [.int ((i : Nat) : Int), x])) := same_new nT
    refine he i x _ _ ex (s.trans sT) fun H5 s5 => ⟨_, s5 _ _ (sT _ _ e), ?_, hlt, same_put ((s.trans sT).trans s5) hD, ?_⟩
    · rw [List.length_map, List.length_range]
      have : sizeLine = 16777216 := rfl
      omega
    · rw [upd_same, List.range_succ, List.map_append]
      rfl
  · have : i = xs.length := by omega
    subst this
    exact .inl ⟨⟨xs, hA', Nat.le_refl _⟩, hd H s e⟩
/-- for .. in range(lo, j) -/
theorem for_rngA {lo j : Int} {n slot : Nat} {tb : TS} {D : Ends} {σ : L2.St} {H : Hp} (hj : j - lo = (n : Int)) (Pv : Nat → L2.St → Hp → Prop) (h0 : Pv 0 σ H)
    (hs : ∀ i σ H, i < n → Pv i σ H → tb { D with nx := Pv (i + 1), ct := Pv (i + 1), bk := D.nx } (σ.set slot (some (.int (lo + (i : Int))))) H) (hd : ∀ σ H, Pv n σ H → D.nx σ H) :
    ∃ W : Nat → Nat → L2.St → Hp → Prop, (∃ m, W 0 m σ H) ∧ ∀ i m σ H, W i m σ H →
      ((Itr lo (j - lo).toNat).stop i H ∧ D.nx σ H) ∨ ((Itr lo (j - lo).toNat).go i H ∧ ∃ N : L2.St → Hp → Prop, (∀ σ' H', N σ' H' → ∃ m', m' < m ∧ W (i + 1) m' σ' H') ∧ ∀ x H', (Itr lo (j - lo).toNat).yld i H x H' → gName slot x σ H' fun σ2 H2 => tb { D with nx := N, ct := N, bk := D.nx } σ2 H2) := by
  rw [hj]
  exact for_range (lo := lo) (n := n) Pv h0 (fun i σ H hi p => hs i σ H hi p) hd
theorem hin_lt {n k : Nat} (h : k ∈ hin n) : k < 6 ∧ n.testBit k = true := by
  unfold hin at h
  have := List.mem_filter.mp h
  exact ⟨List.mem_range.mp this.1, this.2⟩
theorem pow_small {h : Nat} (hh : h ≤ 6) : 2 ^ h ≤ 64 := pow_le64 hh
end Gc
namespace Gc
open PySem PySem.Spec PyProof.Rows L2
section
variable {P : Program} {w : World} {K : PySem.W.Frag} {mg : Str → Option Value} {base : Heap} {f : Addr} {fd : FuncData}
/-! ### hands_in -/
abbrev s_hands_in : Stmt := top 6
theorem sc_hands_in : FnScope ["group", "hands", "rest", "hand"] ["group"] (defScope s_hands_in) := ⟨rfl, rfl, rfl, by decide +kernel, rfl, by decide +kernel, by decide +kernel⟩
def spHandsIn : Sp := fun vs H Q _ => ∃ n : Nat, vs = [.int (n : Int)] ∧ n < 64 ∧ ∀ H' p, Same H H' → H p = none → H' p = some (.lst ((hin n).map fun (k : Nat) => V.int (k : Int))) → Q (.ref p) H'
def tailB (n j : Nat) : List Nat := (List.range' j (6 - j)).filter fun k => n.testBit k
theorem tailB_step {n j : Nat} (h : j < 6) : tailB n j = (if n.testBit j then [j] else []) ++ tailB n (j + 1) := by
  unfold tailB
  rw [show 6 - j = (6 - (j + 1)) + 1 by omega, List.range'_succ]
  by_cases e : n.testBit j
  · rw [List.filter_cons_of_pos e, if_pos e]
    rfl
  · rw [List.filter_cons_of_neg e, if_neg e]
    rfl
theorem tailB_end {n j : Nat} (h : n >>> j = 0) : tailB n j = [] := by
  unfold tailB
  refine List.filter_eq_nil_iff.mpr fun k hk => ?_
  have h1 := (List.mem_range'_1.mp hk).1
  have e : n.testBit k = (n >>> j).testBit (k - j) := by
    rw [Nat.testBit_shiftRight]
    congr 1
    omega
  rw [e, h, Nat.zero_testBit]
  exact Bool.false_ne_true
theorem tailB_zero (n : Nat) : tailB n 0 = hin n := by
  unfold tailB hin
  rw [List.range_eq_range']
theorem shr_six {n j : Nat} (h : n < 64) (hj : 6 ≤ j) : n >>> j = 0 := by
  rw [Nat.shiftRight_eq_div_pow]
  refine Nat.div_eq_of_lt (Nat.lt_of_lt_of_le h ?_)
  exact Nat.pow_le_pow_right (n := 2) (by omega) hj
def muR (σ : L2.St) : Nat := match σ[2]? with
  | some (some (V.int i)) => i.toNat
  | _ => 0
theorem bitc (n j : Nat) : (decide (V.int (((n >>> j) &&& 1 : Nat) : Int) = V.int 1) = true) ↔ n.testBit j = true := by rw [bit_eq]
theorem cl_hands_in (D : Df K mg "hands_in" s_hands_in ["group"] f fd) : Cl P w K mg base 1 "hands_in" ["group"] spHandsIn := D.cl (by
  refine D.F.ok sc_hands_in (fun vs H Q E h => ?_) (fun cdv A outer s H vs Q E hr h => ?_)
  · obtain ⟨n, rfl, _⟩ := h
    rfl
  · obtain ⟨n, rfl, hn, q⟩ := h
    refine ⟨_, PSs.nox (pss_cons (ps_set (i := 1) sc_hands_in.nd rfl (.inl rfl) (pe_lst pa_nil))
  (pss_cons (ps_set (i := 2) sc_hands_in.nd rfl (.inl rfl) (pv 0))
  (pss_cons (ps_set (i := 3) sc_hands_in.nd rfl (.inl rfl) pe_int)
  (pss_cons (ps_while PassesOwn.never (pt_cmpR op_gt (pv 2) pe_int (nomark _))
  (pss_cons (ps_if (pt_cmpR op_eq (pe_op op_andNN (pv 2) pe_int) pe_int (nomark _))
  (pss_one (ps_expr (pe_bm PySem.F.plainAttrs_list PySem.F.slot_list_append PySem.F.type_list_append mt_append (pv 1) (pa_cons (pv 3) pa_nil)))) pss_nil)
  (pss_cons (ps_set (i := 2) sc_hands_in.nd rfl (.inl rfl) (pe_op op_shrNN (pv 2) pe_int))
  (pss_one (ps_aug (i := 3) sc_hands_in.nd rfl (.inl rfl) pe_int ip_add)))))
  (pss_one (ps_ret (pv 1))))))), ?_⟩
    refine ⟨Nat.zero_le _, fun o no => ?_⟩
    refine ⟨_, rfl, ?_⟩
    refine while_by (fun σ H' => ∃ (j : Nat) (acc : List Nat), σ = [some (.int (n : Int)), some (.ref o), some (.int ((n >>> j : Nat) : Int)), some (.int (j : Int))] ∧ j ≤ 6 ∧ acc.length ≤ j ∧ Same H H' ∧
      H' o = some (.lst (acc.map fun (k : Nat) => V.int (k : Int))) ∧ acc ++ tailB n j = hin n) (fun σ _ => muR σ)
      ⟨0, [], rfl, by omega, Nat.le_refl _, same_new no, upd_same, tailB_zero n⟩ ?_ (fun σ H Q Q' m ⟨v, e, i, j, e1, e2, k, ek, q⟩ => ⟨v, e, i, j, e1, e2, k, ek, m _ _ q⟩)
    rintro σ H' ⟨j, acc, rfl, hj, hl, sm, eo, ea⟩
    refine ⟨_, rfl, _, _, rfl, rfl, _, rfl, ?_⟩
    refine ite2 (fun e => ?_) (fun e => ?_)
    · have e0 : n >>> j ≠ 0 := fun z => by
        rw [z] at e
        exact absurd (of_decide_eq_true e) (by decide)
      have hj6 : j < 6 := by
        by_cases h6 : j < 6
        · exact h6
        · exact absurd (shr_six hn (by omega)) e0
      have hs : n >>> j >>> 1 = n >>> (j + 1) := (Nat.shiftRight_add n j 1).symm
      have hmu : n >>> (j + 1) < n >>> j := by
        rw [← hs, Nat.shiftRight_eq_div_pow (n >>> j) 1]
        generalize n >>> j = z at e0
        show z / 2 < z
        omega
      rw [tailB_step hj6] at ea
      refine ⟨_, rfl, n >>> j, 1, rfl, rfl, rfl, _, rfl, ?_⟩
      refine ite2 (fun e => ?_) (fun e => ?_)
      · rw [if_pos ((bitc n j).mp e)] at ea
        refine ⟨_, rfl, .inl ⟨rfl, _, SqL.of eo⟩, _, rfl, o, _, _, rfl, rfl, eo, ?_, ?_⟩
        · rw [List.length_map]
          exact small1000 (by omega)
        · refine ⟨_, rfl, n >>> j, 1, rfl, rfl, ?_⟩
          refine ⟨_, rfl, _, _, rfl, rfl, ?_⟩
          refine ⟨⟨j + 1, acc ++ [j], ?_, by omega, ?_, same_put sm no, ?_, ?_⟩, ?_⟩
          · rw [← hs] <;> rfl
          · rw [List.length_append]
            exact Nat.succ_le_succ hl
          · rw [upd_same, List.map_append]
            rfl
          · rw [List.append_assoc]
            exact ea
          · show ((n >>> j >>> 1 : Nat) : Int).toNat < ((n >>> j : Nat) : Int).toNat
            rw [hs]
            exact hmu
      · rw [if_neg (fun z => e ((bitc n j).mpr z))] at ea
        refine ⟨_, rfl, n >>> j, 1, rfl, rfl, ?_⟩
        refine ⟨_, rfl, _, _, rfl, rfl, ?_⟩
        refine ⟨⟨j + 1, acc, ?_, by omega, by omega, sm, eo, ea⟩, ?_⟩
        · rw [← hs] <;> rfl
        · show ((n >>> j >>> 1 : Nat) : Int).toNat < ((n >>> j : Nat) : Int).toNat
          rw [hs]
          exact hmu
    · have e0 : n >>> j = 0 := by
        have h1 : ¬ (0 : Int) < ((n >>> j : Nat) : Int) := fun z => e (decide_eq_true z)
        generalize n >>> j = z at h1
        omega
      rw [tailB_end e0, List.append_nil] at ea
      rw [ea] at eo
      exact ⟨_, rfl, q H' o sm no eo⟩)
/-! ### hand_count, everybody -/
abbrev s_hand_count : Stmt := top 8
theorem sc_hand_count : FnScope ["table"] ["table"] (defScope s_hand_count) := ⟨rfl, rfl, rfl, by decide +kernel, rfl, by decide +kernel, by decide +kernel⟩
def spHandCount (K : PySem.W.Frag) : Sp := fun vs H Q _ => ∃ (a : Addr) (xs : List V) (h : Nat), vs = [.ref a] ∧ SqL K H a xs ∧ xs.length = 2 ^ h ∧ h ≤ 6 ∧ Q (.int (h : Int)) H
theorem bits_pow : ∀ h : Nat, h ≤ 6 → (Builtin.Int.intBits ((2 ^ h : Nat) : Int) : Int) - 1 = (h : Int) := by decide +kernel
theorem cl_hand_count (D : Df K mg "hand_count" s_hand_count ["table"] f fd) (B : Bl mg) : Cl P w K mg base 1 "hand_count" ["table"] (spHandCount K) := D.cl (by
  refine D.F.ok sc_hand_count (fun vs H Q E h => ?_) (fun cdv A outer s H vs Q E hr h => ?_)
  · obtain ⟨a, xs, h, rfl, _⟩ := h
    rfl
  · obtain ⟨a, xs, h, rfl, hS, hl, hh, q⟩ := h
    refine ⟨_, PSs.nox (pss_one (ps_ret (pe_op op_sub (pe_bits (pe_callB (r := lenR K) call_lenK (by rfl) B.len PySem.boot_len (pa_cons (pv 0) pa_nil))) pe_int))), ?_⟩
    refine ⟨_, rfl, a, xs, rfl, .inl hS, _, rfl, _, _, rfl, rfl, ?_⟩
    show Q (.int ((Builtin.Int.intBits ((xs.length : Nat) : Int) : Int) - 1)) H
    rw [hl, bits_pow h hh]
    exact q)
abbrev s_everybody : Stmt := top 9
theorem sc_everybody : FnScope ["table"] ["table"] (defScope s_everybody) := ⟨rfl, rfl, rfl, by decide +kernel, rfl, by decide +kernel, by decide +kernel⟩
def spEverybody (K : PySem.W.Frag) : Sp := fun vs H Q _ => ∃ (a : Addr) (xs : List V), vs = [.ref a] ∧ SqL K H a xs ∧ Q (.int ((xs.length : Int) - 1)) H
theorem cl_everybody (D : Df K mg "everybody" s_everybody ["table"] f fd) (B : Bl mg) : Cl P w K mg base 1 "everybody" ["table"] (spEverybody K) := D.cl (by
  refine D.F.ok sc_everybody (fun vs H Q E h => ?_) (fun cdv A outer s H vs Q E hr h => ?_)
  · obtain ⟨a, xs, rfl, _⟩ := h
    rfl
  · obtain ⟨a, xs, rfl, hS, q⟩ := h
    refine ⟨_, PSs.nox (pss_one (ps_ret (pe_op op_sub (pe_callB (r := lenR K) call_lenK (by rfl) B.len PySem.boot_len (pa_cons (pv 0) pa_nil)) pe_int))), ?_⟩
    exact ⟨_, rfl, a, xs, rfl, .inl hS, _, _, rfl, rfl, q⟩)
/-! ### row_gives, row_table -/
abbrev s_row_gives : Stmt := top 10
theorem sc_row_gives : FnScope ["row", "group", "hand"] ["row", "group"] (defScope s_row_gives) := ⟨rfl, rfl, rfl, by decide +kernel, rfl, by decide +kernel, by decide +kernel⟩
def spRowGives (K : PySem.W.Frag) : Sp := fun vs H Q _ => ∃ (a : Addr) (ns : List Int) (n : Nat), vs = [.ref a, .int (n : Int)] ∧ SqL K H a (ns.map V.int) ∧ n < 2 ^ ns.length ∧ ns.length ≤ 6 ∧ ∀ H', Same H H' → Q (.int (giv ns n)) H'
theorem bit_lt {n k h : Nat} (hn : n < 2 ^ h) (hb : n.testBit k = true) : k < h := by
  by_cases e : k < h
  · exact e
  · have : n < 2 ^ k := Nat.lt_of_lt_of_le hn (Nat.pow_le_pow_right (n := 2) (by omega) (by omega))
    rw [Nat.testBit_lt_two_pow this] at hb
    cases hb
theorem cl_row_gives (D : Df K mg "row_gives" s_row_gives ["row", "group"] f fd) (B : Bl mg) (C_hands_in : Cl P w K mg base 1 "hands_in" ["group"] spHandsIn) : Cl P w K mg base 2 "row_gives" ["row", "group"] (spRowGives K) := D.cl (by
  refine D.F.ok sc_row_gives (fun vs H Q E h => ?_) (fun cdv A outer s H vs Q E hr h => ?_)
  · obtain ⟨a, ns, n, rfl, _⟩ := h
    rfl
  · obtain ⟨a, ns, n, rfl, hS, hn, hl, q⟩ := h
    have h64 : n < 64 := Nat.lt_of_lt_of_le hn (pow_small hl)
    refine ⟨_, PSs.nox (pss_one (ps_ret (pe_callB (r := rSum K) (cr_sum rfl) (by rfl) B.sum boot_sum (pa_cons (pe_lc (own := [("hand", 2)]) (g := gName 2) rfl sc_row_gives.nd (pi_list (pe_cl C_hands_in (hr.mono (by decide)) (by rfl) (pa_cons (pv 1) pa_nil))) (blkOk_by (own := [("hand", 2)]) (N := ["row", "group", "hand"]) (sc := defScope s_row_gives) (by decide +kernel))
    (fun _ _ _ _ _ => (pg_name (i := 2) sc_row_gives.nd rfl (.inl rfl))) (fun _ _ _ _ _ => pts_nil)
    (fun _ _ _ _ _ => (pe_ix (r := rIxL K) ix_list (pv 0) (pv 2) (fun _ _ => rfl)))) pa_nil)))), ?_⟩
    refine ⟨_, rfl, n, rfl, h64, fun H1 p s1 np ep => ?_⟩
    refine ⟨p, rfl, ⟨_, SqL.of ep⟩, fun D1 nD => ?_⟩
    refine lc_lst (fun v => match v with
      | .int i => .int (gt ns i.toNat)
      | _ => .non) (SqL.of ep) nD ?_ (fun _ => rfl) ?_ ?_
    · rw [List.length_map]
      have := pc_6 n h64
      unfold pc at this
      omega
    · rintro i x H2 R hx s2 k
      obtain ⟨j, ej, rfl⟩ := nats_at hx
      have hj := hin_lt (List.mem_of_getElem? ej)
      have hjl := bit_lt hn hj.2
      refine ⟨_, rfl, _, rfl, a, _, _, _, rfl, rfl, (s1.trans s2).seq hS, ints_atI hjl, ?_⟩
      exact k H2 (Same.refl _)
    · intro H2 s2 e2
      refine ⟨D1, (hin n).map (gt ns), rfl, ?_, ?_⟩
      · rw [List.map_map] at e2
        rw [List.map_map]
        exact SqL.of e2
      · exact q H2 (s1.trans s2))
abbrev s_row_table : Stmt := top 11
theorem sc_row_table : FnScope ["row", "group"] ["row"] (defScope s_row_table) := ⟨rfl, rfl, rfl, by decide +kernel, rfl, by decide +kernel, by decide +kernel⟩
def spRowTable (K : PySem.W.Frag) : Sp := fun vs H Q _ => ∃ (a : Addr) (ns : List Int), vs = [.ref a] ∧ SqL K H a (ns.map V.int) ∧ ns.length ≤ 6 ∧
  ∀ H' p, Same H H' → H p = none → H' p = some (.lst ((tabL (2 ^ ns.length) (giv ns)).map V.int)) → Q (.ref p) H'
theorem cl_row_table (D : Df K mg "row_table" s_row_table ["row"] f fd) (B : Bl mg) (C_row_gives : Cl P w K mg base 2 "row_gives" ["row", "group"] (spRowGives K)) : Cl P w K mg base 3 "row_table" ["row"] (spRowTable K) := D.cl (by
  refine D.F.ok sc_row_table (fun vs H Q E h => ?_) (fun cdv A outer s H vs Q E hr h => ?_)
  · obtain ⟨a, ns, rfl, _⟩ := h
    rfl
  · obtain ⟨a, ns, rfl, hS, hl, q⟩ := h
    have h64 := pow_small hl
    refine ⟨_, PSs.nox (pss_one (ps_ret (pe_lc (own := [("group", 1)]) (g := gName 1) rfl sc_row_table.nd (pi_range1 (by rfl) B.range (pa_cons (pe_op op_oneShlN pe_int (pe_callB (r := lenR K) call_lenK (by rfl) B.len PySem.boot_len (pa_cons (pv 0) pa_nil))) pa_nil)) (blkOk_by (own := [("group", 1)]) (N := ["row", "group"]) (sc := defScope s_row_table) (by decide +kernel))
    (fun _ _ _ _ _ => (pg_name (i := 1) sc_row_table.nd rfl (.inl rfl))) (fun _ _ _ _ _ => pts_nil)
    (fun _ _ _ _ _ => (pe_cl C_row_gives (hr.mono (by decide)) (by rfl) (pa_cons (pv 0) (pa_cons (pv 1) pa_nil))))))), ?_⟩
    refine ⟨_, rfl, a, _, rfl, .inl hS, ns.length, rfl, by rw [List.length_map], by omega, _, rfl, rng_lo, rng_hi (by omega), fun D1 nD => ?_⟩
    refine lc_rngY (n := 2 ^ ns.length) (fun i => .int (giv ns i)) nD (by omega) (fun _ => rfl) ?_ ?_
    · intro i H2 R hi s2 k
      exact ⟨_, rfl, _, rfl, a, ns, i, rfl, s2.seq hS, hi, hl, k⟩
    · intro H2 s2 e2
      rw [map_int] at e2
      exact q H2 D1 s2 nD e2)
end
end Gc
namespace Gc
open PySem PySem.Spec PyProof.Rows L2
section
variable {P : Program} {w : World} {K : PySem.W.Frag} {mg : Str → Option Value} {base : Heap} {f : Addr} {fd : FuncData}
/-! ### pair_gap -/
abbrev s_pair_gap : Stmt := top 13
theorem sc_pair_gap : FnScope ["table", "group", "one", "other", "with_one", "with_other"] ["table", "group", "one", "other"] (defScope s_pair_gap) := ⟨rfl, rfl, rfl, by decide +kernel, rfl, by decide +kernel, by decide +kernel⟩
def gapF (T : List Int) (g i j : Nat) : Int := gt T (g ||| 2 ^ i) + gt T (g ||| 2 ^ j) - gt T ((g ||| 2 ^ i) ||| (g ||| 2 ^ j)) - gt T g
def spPairGap (K : PySem.W.Frag) : Sp := fun vs H Q _ => ∃ (a : Addr) (T : List Int) (h g i j : Nat), vs = [.ref a, .int (g : Int), .int (i : Int), .int (j : Int)] ∧ SqL K H a (T.map V.int) ∧ T.length = 2 ^ h ∧ h ≤ 6 ∧ g < 2 ^ h ∧ i < h ∧ j < h ∧
  Q (.int (gapF T g i j)) H
theorem cl_pair_gap (D : Df K mg "pair_gap" s_pair_gap ["table", "group", "one", "other"] f fd) : Cl P w K mg base 1 "pair_gap" ["table", "group", "one", "other"] (spPairGap K) := D.cl (by
  refine D.F.ok sc_pair_gap (fun vs H Q E h => ?_) (fun cdv A outer s H vs Q E hr h => ?_)
  · obtain ⟨a, T, h, g, i, j, rfl, _⟩ := h
    rfl
  · obtain ⟨a, T, h, g, i, j, rfl, hS, hl, hh, hg, hi, hj, q⟩ := h
    have pi : 2 ^ i < 2 ^ h := Nat.pow_lt_pow_right (by omega) hi
    have pj : 2 ^ j < 2 ^ h := Nat.pow_lt_pow_right (by omega) hj
    have g1 := Nat.or_lt_two_pow hg pi
    have g2 := Nat.or_lt_two_pow hg pj
    have g3 := Nat.or_lt_two_pow g1 g2
    rw [← hl] at hg g1 g2 g3
    refine ⟨_, PSs.nox (pss_cons (ps_set (i := 4) sc_pair_gap.nd rfl (.inl rfl) (pe_op op_orNN (pv 1) (pe_op op_oneShlN pe_int (pv 2))))
  (pss_cons (ps_set (i := 5) sc_pair_gap.nd rfl (.inl rfl) (pe_op op_orNN (pv 1) (pe_op op_oneShlN pe_int (pv 3))))
  (pss_one (ps_ret (pe_op op_sub (pe_op op_sub (pe_op op_add (pe_ix (r := rIxL K) ix_list (pv 0) (pv 4) (fun _ _ => rfl)) (pe_ix (r := rIxL K) ix_list (pv 0) (pv 5) (fun _ _ => rfl))) (pe_ix (r := rIxL K) ix_list (pv 0) (pe_op op_orNN (pv 4) (pv 5)) (fun _ _ => rfl))) (pe_ix (r := rIxL K) ix_list (pv 0) (pv 1) (fun _ _ => rfl))))))), ?_⟩
    refine ⟨_, rfl, _, rfl, i, rfl, rfl, by omega, g, 2 ^ i, rfl, rfl, ?_⟩
    refine ⟨_, rfl, _, rfl, j, rfl, rfl, by omega, g, 2 ^ j, rfl, rfl, ?_⟩
    refine ⟨_, rfl, _, rfl, a, _, _, _, rfl, rfl, hS, ints_atI g1, _, rfl, _, rfl, a, _, _, _, rfl, rfl, hS, ints_atI g2, _, _, rfl, rfl, ?_⟩
    refine ⟨_, rfl, _, rfl, _, rfl, g ||| 2 ^ i, g ||| 2 ^ j, rfl, rfl, a, _, _, _, rfl, rfl, hS, ints_atI g3, _, _, rfl, rfl, ?_⟩
    exact ⟨_, rfl, _, rfl, a, _, _, _, rfl, rfl, hS, ints_atI hg, _, _, rfl, rfl, q⟩)
/-! ### first_break, break_of, falls -/
abbrev s_first_break : Stmt := top 14
theorem sc_first_break : FnScope ["table", "sign", "hands", "group", "outside", "one", "other", "hand"] ["table", "sign"] (defScope s_first_break) := ⟨rfl, rfl, rfl, by decide +kernel, rfl, by decide +kernel, by decide +kernel⟩
def spFirstBreak (K : PySem.W.Frag) : Sp := fun vs H Q _ => ∃ (a : Addr) (T : List Int) (h : Nat), vs = [.ref a, .int 1] ∧ SqL K H a (T.map V.int) ∧ Tab h T ∧ h ≤ 6 ∧ ∀ H', Same H H' → Q .non H'
theorem cl_first_break (D : Df K mg "first_break" s_first_break ["table", "sign"] f fd) (B : Bl mg) (C_hand_count : Cl P w K mg base 1 "hand_count" ["table"] (spHandCount K))
    (C_pair_gap : Cl P w K mg base 1 "pair_gap" ["table", "group", "one", "other"] (spPairGap K)) : Cl P w K mg base 2 "first_break" ["table", "sign"] (spFirstBreak K) := D.cl (by
  refine D.F.ok sc_first_break (fun vs H Q E h => ?_) (fun cdv A outer s H vs Q E hr h => ?_)
  · obtain ⟨a, T, h, rfl, _⟩ := h
    rfl
  · obtain ⟨a, T, h, rfl, hS, t, hh, q⟩ := h
    have hl : (T.map V.int).length = 2 ^ h := by rw [List.length_map, t.len]
    have h64 := pow_small hh
    refine ⟨_, PSs.nox (pss_cons (ps_set (i := 2) sc_first_break.nd rfl (.inl rfl) (pe_cl C_hand_count (hr.mono (by decide)) (by rfl) (pa_cons (pv 0) pa_nil)))
  (pss_cons (ps_for PassesOwn.never rfl (pi_range1 (by rfl) B.range (pa_cons (pe_callB (r := lenR K) call_lenK (by rfl) B.len PySem.boot_len (pa_cons (pv 0) pa_nil)) pa_nil)) (pg_name (i := 3) sc_first_break.nd rfl (.inr rfl))
  (pss_cons (ps_setLc (i := 4) (own := [("hand", 7)]) (g := gName 7) rfl sc_first_break.nd rfl rfl (sw_true rfl rfl rfl (by decide +kernel)) (pi_range1 (by rfl) B.range (pa_cons (pv 2) pa_nil)) (blkOk_by (own := [("hand", 7)]) (N := ["table", "sign", "hands", "group", "outside", "one", "other", "hand"]) (sc := defScope s_first_break) (by decide +kernel))
    (fun _ _ _ _ _ => (pg_name (i := 7) sc_first_break.nd rfl (.inl rfl))) (fun _ _ _ _ _ => (pts_one (pt_cmpR op_eq (pe_op op_andNN (pe_op op_shrNN (pv 3) (pv 7)) pe_int) pe_int (nomark _))))
    (fun _ _ _ _ _ => (pv 7)))
  (pss_one (ps_for PassesOwn.never rfl (pi_list (pv 4)) (pg_name (i := 5) sc_first_break.nd rfl (.inl rfl))
  (pss_one (ps_for PassesOwn.never rfl (pi_list (pv 4)) (pg_name (i := 6) sc_first_break.nd rfl (.inl rfl))
  (pss_one (ps_if (PW.pt (pw_and (pt_cmpR op_lt (pv 5) (pv 6) (nomark _)) (pw_and1 (pt_cmpR op_lt (pe_op op_mul (pv 1) (pe_cl C_pair_gap (hr.mono (by decide)) (by rfl) (pa_cons (pv 0) (pa_cons (pv 3) (pa_cons (pv 5) (pa_cons (pv 6) pa_nil)))))) pe_int (nomark _)))))
  (pss_one (ps_ret (pe_tup (pa_cons (pv 3) (pa_cons (pv 5) (pa_cons (pv 6) pa_nil)))))) pss_nil))))))))
  (pss_one (ps_ret pe_non)))), ?_⟩
    refine ⟨_, rfl, a, _, h, rfl, hS, hl, hh, ?_⟩
    refine ⟨_, rfl, a, _, rfl, .inl hS, _, rfl, rng_lo, rng_hi (by omega), ?_⟩
    refine for_rngJ (n := 2 ^ h) (congrArg _ hl) (fun _ σ H' => ∃ v3 v4 v5 v6, σ = [some (.ref a), some (.int 1), some (.int (h : Int)), v3, v4, v5, v6, none] ∧ Same H H') ⟨none, none, none, none, rfl, Same.refl _⟩ ?_
      (fun σ H' ⟨_, _, _, _, _, sm⟩ => q H' sm)
    rintro g σ H1 hg ⟨v3, v4, v5, v6, rfl, s1⟩
    refine ⟨_, rfl, _, rfl, rng_lo, rng_hi (by omega), fun D1 nD => ?_⟩
    refine lc_rng (n := h) (fun k => !g.testBit k) (fun k => .int (k : Int)) nD (by omega) (fun _ => rfl) ?_ ?_ ?_
    · intro k H2 R hk s2 r
      refine ⟨_, rfl, _, rfl, g, k, rfl, rfl, _, 1, rfl, rfl, rfl, _, rfl, ?_⟩
      rw [bit_eq0]
      exact r H2 (Same.refl _)
    · intro k H2 R hk hb s2 r
      exact ⟨_, rfl, r H2 (Same.refl _)⟩
    · intro H2 s2 e2
      have s02 := s1.trans s2
      have at_ : ∀ (i : Nat) (x : V), ((List.filter (fun k => !g.testBit k) (List.range h)).map fun (k : Nat) => V.int (k : Int))[i]? = some x → ∃ k : Nat, x = .int (k : Int) ∧ k < h ∧ g.testBit k = false := fun i x hx => by
        obtain ⟨k, ek, rfl⟩ := nats_at hx
        have hm := List.mem_filter.mp (List.mem_of_getElem? ek)
        refine ⟨k, rfl, List.mem_range.mp hm.1, ?_⟩
        have := hm.2
        cases e : g.testBit k
        · rfl
        · rw [e] at this
          cases this
      refine ⟨_, rfl, D1, rfl, ⟨_, SqL.of e2⟩, ?_⟩
      refine for_list (K := K) (a := D1) (xs := (List.filter (fun k => !g.testBit k) (List.range h)).map fun (k : Nat) => V.int (k : Int))
        (fun _ σ H' => ∃ v5 v6, σ = [some (.ref a), some (.int 1), some (.int (h : Int)), some (.int (g : Int)), some (.ref D1), v5, v6, none] ∧ H' = H2) ⟨_, _, rfl, rfl⟩ (fun i σ H' _ ⟨_, _, _, e⟩ => by rw [e]; exact SqL.of e2) ?_
        (fun σ H' ⟨v5, v6, e, e'⟩ => ⟨_, _, _, _, e, by rw [e']; exact s02⟩)
      rintro i x σ H3 hx ⟨v5, v6, rfl, rfl⟩
      obtain ⟨k, rfl, hk, bk⟩ := at_ i x hx
      refine ⟨_, rfl, D1, rfl, ⟨_, SqL.of e2⟩, ?_⟩
      refine for_list (K := K) (a := D1) (xs := (List.filter (fun k => !g.testBit k) (List.range h)).map fun (k : Nat) => V.int (k : Int))
        (fun _ σ H' => ∃ v6, σ = [some (.ref a), some (.int 1), some (.int (h : Int)), some (.int (g : Int)), some (.ref D1), some (.int (k : Int)), v6, none] ∧ H' = H3) ⟨_, rfl, rfl⟩ (fun i σ H' _ ⟨_, _, e⟩ => by rw [e]; exact SqL.of e2) ?_
        (fun σ H' ⟨v6, e, e'⟩ => ⟨_, _, e, e'⟩)
      rintro i2 x2 σ H4 hx2 ⟨v6, rfl, rfl⟩
      obtain ⟨l, rfl, hl2, bl⟩ := at_ i2 x2 hx2
      refine ⟨_, rfl, _, rfl, _, _, rfl, rfl, _, rfl, ite2 (fun e => ?_) (fun e => ?_)⟩
      · have kl : k < l := by
          have := of_decide_eq_true e
          omega
        have gap : 0 ≤ gapF T g k l := gap_ok t hh hg hk hl2 kl bk bl
        refine ⟨_, rfl, _, rfl, _, rfl, _, rfl, _, rfl, a, T, h, g, k, l, rfl, s02.seq hS, t.len, hh, hg, hk, hl2, ?_⟩
        refine ⟨_, _, rfl, rfl, .inl ⟨by decide, by decide⟩, _, _, rfl, rfl, _, rfl, ite2 (fun e => absurd (of_decide_eq_true e) ?_) (fun _ => ?_)⟩
        · rw [Int.one_mul]
          omega
        · exact ⟨_, rfl, rfl⟩
      · refine iteF ?_
        exact ⟨_, rfl, rfl⟩)
abbrev s_break_of : Stmt := top 15
theorem sc_break_of : FnScope ["table"] ["table"] (defScope s_break_of) := ⟨rfl, rfl, rfl, by decide +kernel, rfl, by decide +kernel, by decide +kernel⟩
def spBreakOf (K : PySem.W.Frag) : Sp := fun vs H Q _ => ∃ (a : Addr) (T : List Int) (h : Nat), vs = [.ref a] ∧ SqL K H a (T.map V.int) ∧ Tab h T ∧ h ≤ 6 ∧ ∀ H', Same H H' → Q .non H'
theorem cl_break_of (D : Df K mg "break_of" s_break_of ["table"] f fd) (C_first_break : Cl P w K mg base 2 "first_break" ["table", "sign"] (spFirstBreak K)) : Cl P w K mg base 3 "break_of" ["table"] (spBreakOf K) := D.cl (by
  refine D.F.ok sc_break_of (fun vs H Q E h => ?_) (fun cdv A outer s H vs Q E hr h => ?_)
  · obtain ⟨a, T, h, rfl, _⟩ := h
    rfl
  · obtain ⟨a, T, h, rfl, hS, t, hh, q⟩ := h
    refine ⟨_, PSs.nox (pss_one (ps_ret (pe_cl C_first_break (hr.mono (by decide)) (by rfl) (pa_cons (pv 0) (pa_cons pe_int pa_nil))))), ?_⟩
    exact ⟨_, rfl, a, T, h, rfl, hS, t, hh, q⟩)
abbrev s_falls : Stmt := top 16
theorem sc_falls : FnScope ["table"] ["table"] (defScope s_falls) := ⟨rfl, rfl, rfl, by decide +kernel, rfl, by decide +kernel, by decide +kernel⟩
def spFalls (K : PySem.W.Frag) : Sp := fun vs H Q _ => ∃ (a : Addr) (T : List Int) (h : Nat), vs = [.ref a] ∧ SqL K H a (T.map V.int) ∧ Tab h T ∧ h ≤ 6 ∧ ∀ H', Same H H' → Q (.bl true) H'
theorem cl_falls (D : Df K mg "falls" s_falls ["table"] f fd) (C_break_of : Cl P w K mg base 3 "break_of" ["table"] (spBreakOf K)) : Cl P w K mg base 4 "falls" ["table"] (spFalls K) := D.cl (by
  refine D.F.ok sc_falls (fun vs H Q E h => ?_) (fun cdv A outer s H vs Q E hr h => ?_)
  · obtain ⟨a, T, h, rfl, _⟩ := h
    rfl
  · obtain ⟨a, T, h, rfl, hS, t, hh, q⟩ := h
    refine ⟨_, PSs.nox (pss_one (ps_ret (pe_cmpR op_isN (pe_cl C_break_of (hr.mono (by decide)) (by rfl) (pa_cons (pv 0) pa_nil)) pe_non (nomark _)))), ?_⟩
    refine ⟨_, rfl, a, T, h, rfl, hS, t, hh, fun H1 s1 => ⟨rfl, ?_⟩⟩
    exact q H1 s1)
/-! ### the looks -/
abbrev s_look_at_both : Stmt := top 18
theorem sc_look_at_both : FnScope ["one", "other"] ["one", "other"] (defScope s_look_at_both) := ⟨rfl, rfl, rfl, by decide +kernel, rfl, by decide +kernel, by decide +kernel⟩
def spLookBoth (K : PySem.W.Frag) : Sp := fun vs H Q _ => ∃ (a b : Addr) (xs ys : List V), vs = [.ref a, .ref b] ∧ SqL K H a xs ∧ SqL K H b ys ∧ xs.length = ys.length ∧ Q .non H
theorem cl_look_at_both (D : Df K mg "look_at_both" s_look_at_both ["one", "other"] f fd) (B : Bl mg) : Cl P w K mg base 1 "look_at_both" ["one", "other"] (spLookBoth K) := D.cl (by
  refine D.F.ok sc_look_at_both (fun vs H Q E h => ?_) (fun cdv A outer s H vs Q E hr h => ?_)
  · obtain ⟨a, b, xs, ys, rfl, _⟩ := h
    rfl
  · obtain ⟨a, b, xs, ys, rfl, hA, hB, hl, q⟩ := h
    refine ⟨_, PSs.nox (pss_one (ps_if (pt_cmpR op_ne (pe_callB (r := lenR K) call_lenK (by rfl) B.len PySem.boot_len (pa_cons (pv 0) pa_nil)) (pe_callB (r := lenR K) call_lenK (by rfl) B.len PySem.boot_len (pa_cons (pv 1) pa_nil)) (nomark _))
  (pss_one ps_never) pss_nil)), ?_⟩
    refine ⟨_, rfl, a, xs, rfl, .inl hA, _, rfl, b, ys, rfl, .inl hB, rfl, _, rfl, ?_⟩
    exact iteNS (by rw [hl]) q)
abbrev s_look_at_falling : Stmt := top 19
theorem sc_look_at_falling : FnScope ["one", "other"] ["one", "other"] (defScope s_look_at_falling) := ⟨rfl, rfl, rfl, by decide +kernel, rfl, by decide +kernel, by decide +kernel⟩
def spLookFalling (K : PySem.W.Frag) : Sp := fun vs H Q _ => ∃ (a b : Addr) (S T : List Int) (h : Nat), vs = [.ref a, .ref b] ∧ SqL K H a (S.map V.int) ∧ SqL K H b (T.map V.int) ∧ Tab h S ∧ Tab h T ∧ h ≤ 6 ∧ ∀ H', Same H H' → Q .non H'
theorem cl_look_at_falling (D : Df K mg "look_at_falling" s_look_at_falling ["one", "other"] f fd) (C_look_at_both : Cl P w K mg base 1 "look_at_both" ["one", "other"] (spLookBoth K)) (C_falls : Cl P w K mg base 4 "falls" ["table"] (spFalls K)) :
    Cl P w K mg base 5 "look_at_falling" ["one", "other"] (spLookFalling K) := D.cl (by
  refine D.F.ok sc_look_at_falling (fun vs H Q E h => ?_) (fun cdv A outer s H vs Q E hr h => ?_)
  · obtain ⟨a, b, S, T, h, rfl, _⟩ := h
    rfl
  · obtain ⟨a, b, S, T, h, rfl, hA, hB, tA, tB, hh, q⟩ := h
    refine ⟨_, PSs.nox (pss_cons (ps_expr (pe_cl C_look_at_both (hr.mono (by decide)) (by rfl) (pa_cons (pv 0) (pa_cons (pv 1) pa_nil))))
  (pss_one (ps_if (PW.pt (pw_or (pt_not (pt_val (pe_cl C_falls (hr.mono (by decide)) (by rfl) (pa_cons (pv 0) pa_nil)))) (pw_or1 (pt_not (pt_val (pe_cl C_falls (hr.mono (by decide)) (by rfl) (pa_cons (pv 1) pa_nil)))))))
  (pss_one ps_never) pss_nil))), ?_⟩
    refine ⟨_, rfl, _, rfl, a, b, _, _, rfl, hA, hB, by rw [List.length_map, List.length_map, tA.len, tB.len], ?_⟩
    refine ⟨_, rfl, a, S, h, rfl, hA, tA, hh, fun H1 s1 => ⟨true, rfl, iteF ?_⟩⟩
    refine ⟨_, rfl, b, T, h, rfl, s1.seq hB, tB, hh, fun H2 s2 => ⟨true, rfl, iteF ?_⟩⟩
    exact q H2 (s1.trans s2))
end
end Gc
namespace Gc
open PySem PySem.Spec PyProof.Rows L2
section
variable {P : Program} {w : World} {K : PySem.W.Frag} {mg : Str → Option Value} {base : Heap} {f : Addr} {fd : FuncData}
/-! ### parting -/
abbrev s_parting : Stmt := top 20
theorem sc_parting : FnScope ["one", "other", "last", "costs", "cost", "group"] ["one", "other"] (defScope s_parting) := ⟨rfl, rfl, rfl, by decide +kernel, rfl, by decide +kernel, by decide +kernel⟩
def prtF (A B : List Int) (h g : Nat) : Int := gt A g + gt B (2 ^ h - 1 - g)
def spParting (K : PySem.W.Frag) : Sp := fun vs H Q _ => ∃ (a b : Addr) (S T : List Int) (h : Nat), vs = [.ref a, .ref b] ∧ SqL K H a (S.map V.int) ∧ SqL K H b (T.map V.int) ∧ S.length = 2 ^ h ∧ T.length = 2 ^ h ∧ h ≤ 6 ∧
  ∀ H' t (j : Nat) (m : Int), Same H H' → H t = none → H' t = some (.tup [.int (j : Int), .int m]) → j < 2 ^ h → m = prtF S T h j → Part h S T m → (∀ g, g < j → prtF S T h g ≠ m) → Q (.ref t) H'
theorem cl_parting (D : Df K mg "parting" s_parting ["one", "other"] f fd) (B : Bl mg) (C_look_at_both : Cl P w K mg base 1 "look_at_both" ["one", "other"] (spLookBoth K)) (C_everybody : Cl P w K mg base 1 "everybody" ["table"] (spEverybody K)) :
    Cl P w K mg base 2 "parting" ["one", "other"] (spParting K) := D.cl (by
  refine D.F.ok sc_parting (fun vs H Q E h => ?_) (fun cdv A outer s H vs Q E hr h => ?_)
  · obtain ⟨a, b, S, T, h, rfl, _⟩ := h
    rfl
  · obtain ⟨a, b, S, T, h, rfl, hA, hB, lA, lB, hh, q⟩ := h
    have h64 := pow_small hh
    have hpos := Nat.two_pow_pos h
    have hl : (S.map V.int).length = 2 ^ h := by rw [List.length_map, lA]
    refine ⟨_, PSs.nox (pss_cons (ps_expr (pe_cl C_look_at_both (hr.mono (by decide)) (by rfl) (pa_cons (pv 0) (pa_cons (pv 1) pa_nil))))
  (pss_cons (ps_set (i := 2) sc_parting.nd rfl (.inr rfl) (pe_cl C_everybody (hr.mono (by decide)) (by rfl) (pa_cons (pv 0) pa_nil)))
  (pss_cons (ps_setLc (i := 3) (own := [("group", 5)]) (g := gName 5) rfl sc_parting.nd rfl rfl (sw_true rfl rfl rfl (by decide +kernel)) (pi_range1 (by rfl) B.range (pa_cons (pe_callB (r := lenR K) call_lenK (by rfl) B.len PySem.boot_len (pa_cons (pv 0) pa_nil)) pa_nil)) (blkOk_by (own := [("group", 5)]) (N := ["one", "other", "last", "costs", "cost", "group"]) (sc := defScope s_parting) (by decide +kernel))
    (fun _ _ _ _ _ => (pg_name (i := 5) sc_parting.nd rfl (.inl rfl))) (fun _ _ _ _ _ => pts_nil)
    (fun _ _ _ _ _ => (pe_op op_add (pe_ix (r := rIxL K) ix_list (pv 0) (pv 5) (fun _ _ => rfl)) (pe_ix (r := rIxL K) ix_list (pv 1) (pe_op op_sub (pv 2) (pv 5)) (fun _ _ => rfl)))))
  (pss_cons (ps_set (i := 4) sc_parting.nd rfl (.inl rfl) (pe_callB (cr_min rfl) (by rfl) B.min boot_min (pa_cons (pv 3) pa_nil)))
  (pss_one (ps_ret (pe_tup (pa_cons (pe_bm PySem.F.plainAttrs_list PySem.F.slot_list_index PySem.F.type_list_index mt_index (pv 3) (pa_cons (pv 4) pa_nil)) (pa_cons (pv 4) pa_nil))))))))), ?_⟩
    refine ⟨_, rfl, _, rfl, a, b, _, _, rfl, hA, hB, by rw [List.length_map, List.length_map, lA, lB], ?_⟩
    refine ⟨_, rfl, a, _, rfl, hA, ?_⟩
    refine ⟨_, rfl, a, _, rfl, .inl hA, _, rfl, rng_lo, rng_hi (by omega), fun D1 nD => ?_⟩
    refine lc_rngYJ (n := 2 ^ h) (congrArg _ hl) (fun i => .int (prtF S T h i)) nD (by omega) (fun _ => rfl) ?_ ?_
    · intro i H1 R hi s1 k
      refine ⟨_, rfl, _, rfl, a, _, _, _, rfl, rfl, s1.seq hA, ints_atI (show i < S.length by omega), ?_⟩
      refine ⟨_, rfl, _, rfl, _, rfl, _, _, rfl, rfl, b, _, _, _, rfl, rfl, s1.seq hB, at_of (j := 2 ^ h - 1 - i) (by rw [hl]; omega) (ints_at (by omega)), _, _, rfl, rfl, ?_⟩
      exact k H1 (Same.refl _)
    · intro H1 s1 e1
      rw [map_int] at e1
      refine ⟨_, rfl, D1, _, rfl, SqL.of e1, by rw [tabL_len]; exact hpos, fun m hm hle => ?_⟩
      obtain ⟨g0, hg0, em⟩ := mem_tabL hm
      obtain ⟨j, hj, ej, lj⟩ := least (fun g => prtF S T h g = m) g0 em.symm
      have hj2 : j < 2 ^ h := by omega
      have at_ : ∀ i, i < 2 ^ h → ((tabL (2 ^ h) (prtF S T h)).map V.int)[i]? = some (.int (prtF S T h i)) := fun i hi => by
        rw [ints_at (by rw [tabL_len]; exact hi), gt_tabL _ hi]
      refine ⟨_, rfl, .inl ⟨rfl, _, SqL.of e1⟩, _, rfl, D1, _, _, j, _, rfl, rfl, SqL.of e1, rfl, ?_, at_ j hj2, ?_, ?_, ?_⟩
      · rw [List.all_map]
        exact List.all_eq_true.mpr fun _ _ => rfl
      · show (prtF S T h j == m) = true
        rw [ej]
        exact beq_self_eq_true m
      · intro i z hi hz
        rw [at_ i (by omega)] at hz
        cases hz
        show (prtF S T h i == m) = false
        exact beq_eq_false_iff_ne.mpr (lj i hi)
      · refine ⟨_, rfl, (by show 2 ≤ sizeLine; decide), fun t nt => ?_⟩
        refine q _ t j m (s1.trans (same_new nt)) (s1.free nt) upd_same hj2 ej.symm (fun g hg => hle _ (tabL_mem _ hg)) lj)
/-! ### group_beside, fixed_hand, first_room -/
abbrev s_group_beside : Stmt := top 21
theorem sc_group_beside : FnScope ["group", "hand", "ahead"] ["group", "hand"] (defScope s_group_beside) := ⟨rfl, rfl, rfl, by decide +kernel, rfl, by decide +kernel, by decide +kernel⟩
def spGroupBeside : Sp := fun vs H Q _ => ∃ g : Nat, vs = [.int (g : Int), .int 0] ∧ g < 64 ∧ Q (.int ((2 * g : Nat) : Int)) H
theorem cl_group_beside (D : Df K mg "group_beside" s_group_beside ["group", "hand"] f fd) : Cl P w K mg base 1 "group_beside" ["group", "hand"] spGroupBeside := D.cl (by
  refine D.F.ok sc_group_beside (fun vs H Q E h => ?_) (fun cdv A outer s H vs Q E hr h => ?_)
  · obtain ⟨g, rfl, _⟩ := h
    rfl
  · obtain ⟨g, rfl, hg, q⟩ := h
    refine ⟨_, PSs.nox (pss_cons (ps_set (i := 2) sc_group_beside.nd rfl (.inl rfl) (pe_op op_andNN (pv 0) (pe_op op_sub (pe_op op_oneShlN pe_int (pv 1)) pe_int)))
  (pss_one (ps_ret (pe_op op_orNN (pv 2) (pe_op op_shl (pe_op op_sub (pv 0) (pv 2)) pe_int))))), ?_⟩
    refine ⟨_, rfl, _, rfl, 0, rfl, rfl, by omega, _, _, rfl, rfl, g, 0, rfl, rfl, ?_⟩
    rw [Nat.and_zero]
    refine ⟨_, rfl, _, rfl, _, rfl, _, _, rfl, rfl, _, _, rfl, rfl, ⟨by decide, by decide, by omega⟩, 0, 2 * g, rfl, congrArg V.int ?_, ?_⟩
    · show ((g : Int) - 0) * 2 ^ 1 = _
      omega
    · rw [Nat.zero_or]
      exact q)
abbrev s_fixed_hand : Stmt := top 22
theorem sc_fixed_hand : FnScope ["table", "hand", "share", "alone", "costs", "group", "old"] ["table", "hand", "share"] (defScope s_fixed_hand) := ⟨rfl, rfl, rfl, by decide +kernel, rfl, by decide +kernel, by decide +kernel⟩
def spFixedHand (K : PySem.W.Frag) : Sp := fun vs H Q _ => ∃ (a : Addr) (T : List Int) (h : Nat) (x : Int), vs = [.ref a, .int 0, .int x] ∧ SqL K H a (T.map V.int) ∧ T.length = 2 ^ (h + 1) ∧ h ≤ 5 ∧ x ≤ gt T 1 ∧
  ∀ H' p, Same H H' → H p = none → H' p = some (.lst ((fixL h T x).map V.int)) → Q (.ref p) H'
theorem cl_fixed_hand (D : Df K mg "fixed_hand" s_fixed_hand ["table", "hand", "share"] f fd) (B : Bl mg) (C_group_beside : Cl P w K mg base 1 "group_beside" ["group", "hand"] spGroupBeside) :
    Cl P w K mg base 2 "fixed_hand" ["table", "hand", "share"] (spFixedHand K) := D.cl (by
  refine D.F.ok sc_fixed_hand (fun vs H Q E h => ?_) (fun cdv A outer s H vs Q E hr h => ?_)
  · obtain ⟨a, T, h, x, rfl, _⟩ := h
    rfl
  · obtain ⟨a, T, h, x, rfl, hS, hl, hh, hx, q⟩ := h
    have h64 := pow_small (show h ≤ 6 by omega)
    have hpos := Nat.two_pow_pos h
    have ps := pow_s h
    have hl' : (T.map V.int).length = 2 ^ (h + 1) := by rw [List.length_map, hl]
    refine ⟨_, PSs.nox (pss_cons (ps_set (i := 3) sc_fixed_hand.nd rfl (.inl rfl) (pe_op op_oneShlN pe_int (pv 1)))
  (pss_cons (ps_if (pt_cmpR op_gt (pv 2) (pe_ix (r := rIxL K) ix_list (pv 0) (pv 3) (fun _ _ => rfl)) (nomark _))
  (pss_one ps_never) pss_nil)
  (pss_cons (ps_set (i := 4) sc_fixed_hand.nd rfl (.inl rfl) (pe_lst pa_nil))
  (pss_cons (ps_for PassesOwn.never rfl (pi_range1 (by rfl) B.range (pa_cons (pe_op op_fdivW (pe_callB (r := lenR K) call_lenK (by rfl) B.len PySem.boot_len (pa_cons (pv 0) pa_nil)) pe_int) pa_nil)) (pg_name (i := 5) sc_fixed_hand.nd rfl (.inl rfl))
  (pss_cons (ps_set (i := 6) sc_fixed_hand.nd rfl (.inl rfl) (pe_cl C_group_beside (hr.mono (by decide)) (by rfl) (pa_cons (pv 5) (pa_cons (pv 1) pa_nil))))
  (pss_one (ps_expr (pe_bm PySem.F.plainAttrs_list PySem.F.slot_list_append PySem.F.type_list_append mt_append (pv 4) (pa_cons (pe_callB (call_min2 rfl) (by rfl) B.min boot_min (pa_cons (pe_ix (r := rIxL K) ix_list (pv 0) (pv 6) (fun _ _ => rfl)) (pa_cons (pe_op op_sub (pe_ix (r := rIxL K) ix_list (pv 0) (pe_op op_orNN (pv 6) (pv 3)) (fun _ _ => rfl)) (pv 2)) pa_nil))) pa_nil))))))
  (pss_one (ps_ret (pv 4))))))), ?_⟩
    refine ⟨_, rfl, 0, rfl, rfl, by omega, ?_⟩
    refine ⟨_, rfl, _, rfl, _, rfl, a, _, _, _, rfl, rfl, hS, ints_atI (g := 1) (by omega), _, _, rfl, rfl, _, rfl, ite2 (fun e => absurd (of_decide_eq_true e) (by omega)) (fun _ => ?_)⟩
    refine ⟨Nat.zero_le _, fun D1 nD => ?_⟩
    refine ⟨_, rfl, a, _, rfl, .inl ((same_new nD).seq hS), _, _, rfl, rfl, ⟨by decide, by decide⟩, _, rfl, ?_, ?_, ?_⟩
    · rw [hl', show ((2 ^ (h + 1) : Nat) : Int) / 2 = ((2 ^ h : Nat) : Int) by rw [ps]; omega]
      exact rng_lo
    · rw [hl', show ((2 ^ (h + 1) : Nat) : Int) / 2 = ((2 ^ h : Nat) : Int) by rw [ps]; omega]
      exact rng_hi (by omega)
    refine for_rngJ (n := 2 ^ h) (by rw [hl', ps]; omega) (fun i σ H' => ∃ v5 v6, σ = [some (.ref a), some (.int 0), some (.int x), some (.int ((1 : Nat) : Int)), some (.ref D1), v5, v6] ∧ Same H H' ∧ H' D1 = some (.lst ((tabL i (fixF T x)).map V.int)))
      ⟨none, none, rfl, same_new nD, upd_same⟩ ?_ ?_
    · rintro i σ H1 hi ⟨v5, v6, rfl, s1, e1⟩
      refine ⟨_, rfl, _, rfl, i, rfl, by omega, ?_⟩
      have e2 : (2 * i) ||| 1 = 2 * i + 1 := by
        have := dbl_or i 0 0 1 (by omega) (by omega)
        simp only [Nat.add_zero, Nat.or_zero, Nat.mul_zero, Nat.zero_add] at this
        exact this
      refine ⟨_, rfl, .inl ⟨rfl, _, SqL.of e1⟩, _, rfl, _, rfl, a, _, _, _, rfl, rfl, s1.seq hS, ints_atI (g := 2 * i) (by omega), ?_⟩
      refine ⟨_, rfl, _, rfl, _, rfl, 2 * i, 1, rfl, rfl, a, _, _, _, rfl, rfl, s1.seq hS, ints_atI (g := 2 * i ||| 1) (by omega), _, rfl, _, _, rfl, rfl, ?_⟩
      refine ⟨_, _, rfl, D1, _, _, rfl, rfl, e1, ?_, ?_⟩
      · rw [List.length_map, tabL_len]
        exact small1000 (by omega)
      · refine ⟨_, _, rfl, same_put s1 nD, ?_⟩
        rw [upd_same, tabL_succ, List.map_append, e2]
        rfl
    · rintro σ H1 ⟨v5, v6, rfl, s1, e1⟩
      exact ⟨_, rfl, q H1 D1 s1 nD e1⟩)
abbrev s_first_room : Stmt := top 23
theorem sc_first_room : FnScope ["one", "other", "least", "rooms", "last", "group"] ["one", "other", "least"] (defScope s_first_room) := ⟨rfl, rfl, rfl, by decide +kernel, rfl, by decide +kernel, by decide +kernel⟩
def roomL (h : Nat) (S T : List Int) (m : Int) (n : Nat) : List Int := [gt S 1, gt T 1] ++ tabL n fun s => gt S (2 * s + 1) + gt T (2 * (2 ^ h - 1 - s) + 1) - m
def spFirstRoom (K : PySem.W.Frag) : Sp := fun vs H Q _ => ∃ (a b : Addr) (S T : List Int) (h : Nat) (m : Int), vs = [.ref a, .ref b, .int m] ∧ SqL K H a (S.map V.int) ∧ SqL K H b (T.map V.int) ∧ S.length = 2 ^ (h + 1) ∧ T.length = 2 ^ (h + 1) ∧ h ≤ 5 ∧
  ∀ H' x, Same H H' → RoomOf h S T m x → Q (.int x) H'
theorem rgc : ∀ h : Nat, h ≤ 5 → (2 : Int) ≠ 0 ∧ (2 : Int).natAbs < 1073741824 ∧ Builtin.Range.small 1 ((2 ^ (h + 1) : Nat) : Int) 2 = true ∧ Builtin.Range.rangeSize 1 ((2 ^ (h + 1) : Nat) : Int) 2 = 2 ^ h := by decide +kernel
theorem cl_first_room (D : Df K mg "first_room" s_first_room ["one", "other", "least"] f fd) (B : Bl mg) (C_everybody : Cl P w K mg base 1 "everybody" ["table"] (spEverybody K)) :
    Cl P w K mg base 2 "first_room" ["one", "other", "least"] (spFirstRoom K) := D.cl (by
  refine D.F.ok sc_first_room (fun vs H Q E h => ?_) (fun cdv A outer s H vs Q E hr h => ?_)
  · obtain ⟨a, b, S, T, h, m, rfl, _⟩ := h
    rfl
  · obtain ⟨a, b, S, T, h, m, rfl, hA, hB, lA, lB, hh, q⟩ := h
    have h64 := pow_small (show h ≤ 6 by omega)
    have hpos := Nat.two_pow_pos h
    have ps := pow_s h
    have hl' : (S.map V.int).length = 2 ^ (h + 1) := by rw [List.length_map, lA]
    refine ⟨_, PSs.nox (pss_cons (ps_set (i := 3) sc_first_room.nd rfl (.inl rfl) (pe_lst (pa_cons (pe_ix (r := rIxL K) ix_list (pv 0) pe_int (fun _ _ => rfl)) (pa_cons (pe_ix (r := rIxL K) ix_list (pv 1) pe_int (fun _ _ => rfl)) pa_nil))))
  (pss_cons (ps_set (i := 4) sc_first_room.nd rfl (.inl rfl) (pe_cl C_everybody (hr.mono (by decide)) (by rfl) (pa_cons (pv 0) pa_nil)))
  (pss_cons (ps_for PassesOwn.never rfl (pi_range3 (by rfl) B.range (pa_cons pe_int (pa_cons (pe_callB (r := lenR K) call_lenK (by rfl) B.len PySem.boot_len (pa_cons (pv 0) pa_nil)) (pa_cons pe_int pa_nil)))) (pg_name (i := 5) sc_first_room.nd rfl (.inl rfl))
  (pss_one (ps_expr (pe_bm PySem.F.plainAttrs_list PySem.F.slot_list_append PySem.F.type_list_append mt_append (pv 3) (pa_cons (pe_op op_sub (pe_op op_add (pe_ix (r := rIxL K) ix_list (pv 0) (pv 5) (fun _ _ => rfl)) (pe_ix (r := rIxL K) ix_list (pv 1) (pe_op op_sub (pe_op op_add (pv 4) pe_int) (pv 5)) (fun _ _ => rfl))) (pv 2)) pa_nil)))))
  (pss_one (ps_ret (pe_callB (cr_min rfl) (by rfl) B.min boot_min (pa_cons (pv 3) pa_nil))))))), ?_⟩
    refine ⟨_, rfl, a, _, _, _, rfl, rfl, hA, ints_atI (g := 1) (by omega), _, rfl, b, _, _, _, rfl, rfl, hB, ints_atI (g := 1) (by omega), (by show 2 ≤ sizeLine; decide), fun D1 nD => ?_⟩
    have s0 := same_new (o := .lst [.int (gt S 1), .int (gt T 1)]) nD
    refine ⟨_, rfl, a, _, rfl, s0.seq hA, ?_⟩
    refine ⟨_, rfl, a, _, rfl, .inl (s0.seq hA), 1, _, 2, 2 ^ h, rfl, ?_, ?_⟩
    · rw [hl']
      exact rgc h hh
    refine for_rangeC (lo := 1) (c := 2) (n := 2 ^ h) (fun i σ H' => ∃ v5, σ = [some (.ref a), some (.ref b), some (.int m), some (.ref D1), some (.int (((S.map V.int).length : Int) - 1)), v5] ∧ Same H H' ∧ H' D1 = some (.lst ((roomL h S T m i).map V.int)))
      ⟨none, rfl, s0, upd_same⟩ ?_ ?_
    · rintro i σ H1 hi ⟨v5, rfl, s1, e1⟩
      refine ⟨_, rfl, .inl ⟨rfl, _, SqL.of e1⟩, _, rfl, _, rfl, a, _, _, _, rfl, rfl, s1.seq hA, at_of (j := 2 * i + 1) (by omega) (ints_at (by omega)), ?_⟩
      refine ⟨_, rfl, _, rfl, _, _, rfl, rfl, _, rfl, _, _, rfl, rfl, b, _, _, _, rfl, rfl, s1.seq hB, at_of (j := 2 * (2 ^ h - 1 - i) + 1) (by rw [hl']; omega) (ints_at (by omega)), _, _, rfl, rfl, _, rfl, _, _, rfl, rfl, ?_⟩
      refine ⟨D1, _, _, rfl, rfl, e1, ?_, ?_⟩
      · rw [List.length_map]
        unfold roomL
        rw [List.length_append, tabL_len]
        exact small1000 (by show 2 + i ≤ 1000; omega)
      · refine ⟨_, rfl, same_put s1 nD, ?_⟩
        unfold roomL
        rw [upd_same, tabL_succ, ← List.append_assoc, List.map_append (l₂ := [_])]
        rfl
    · rintro σ H1 ⟨v5, rfl, s1, e1⟩
      refine ⟨_, rfl, D1, _, rfl, SqL.of e1, ?_, fun x hx hle => q H1 x s1 ⟨?_, ?_, ?_, ?_⟩⟩
      · unfold roomL
        rw [List.length_append]
        exact Nat.lt_of_lt_of_le (by decide : 0 < 2) (Nat.le_add_right 2 _)
      · exact hle _ (List.mem_append_left _ List.mem_cons_self)
      · exact hle _ (List.mem_append_left _ (List.mem_cons_of_mem _ List.mem_cons_self))
      · exact fun s hs => hle _ (List.mem_append_right _ (tabL_mem (fun s => gt S (2 * s + 1) + gt T (2 * (2 ^ h - 1 - s) + 1) - m) hs))
      · rcases List.mem_append.mp hx with hx | hx
        · rcases List.mem_cons.mp hx with e | hx
          · exact .inl e
          · exact .inr (.inl (List.mem_singleton.mp hx))
        · obtain ⟨s, hs, e⟩ := mem_tabL hx
          exact .inr (.inr ⟨s, hs, e⟩))
end
end Gc
namespace Gc
open PySem PySem.Spec PyProof.Rows L2
section
variable {P : Program} {w : World} {K : PySem.W.Frag} {mg : Str → Option Value} {base : Heap} {f : Addr} {fd : FuncData}
/-! ### common -/
abbrev s_common : Stmt := top 24
theorem sc_common : FnScope ["one", "other", "group", "least", "shares", "share"] ["one", "other"] (defScope s_common) := ⟨rfl, rfl, rfl, by decide +kernel, rfl, by decide +kernel, by decide +kernel⟩
def spCommon (K : PySem.W.Frag) : Sp := fun vs H Q _ => ∃ (a b : Addr) (S T : List Int) (h : Nat), vs = [.ref a, .ref b] ∧ H a = some (.lst (S.map V.int)) ∧ H b = some (.lst (T.map V.int)) ∧ Tab h S ∧ Tab h T ∧ 1 ≤ h ∧ h ≤ 6 ∧
  ∀ H' t p (sh : List Int) (j : Nat) (m : Int), Same H H' → H p = none → H' t = some (.tup [.ref p, .int (j : Int)]) → H' p = some (.lst (sh.map V.int)) → sh.length = h → Under h S sh → Under h T sh → sh.sum = m →
    j < 2 ^ h → m = prtF S T h j → Part h S T m → Q (.ref t) H'
/-- what holds ahead of each turn of the loop: k hands are left -/
structure Left (h k : Nat) (S T S' T' sh : List Int) (m m' : Int) : Prop where
  k1 : 1 ≤ k
  len : sh.length + k = h
  tS : Tab k S'
  tT : Tab k T'
  part : Part k S' T' m'
  sum : sh.sum + m' = m
  ext : ∀ r : List Int, r.length = k → Under k S' r → Under k T' r → Under h S (sh ++ r) ∧ Under h T (sh ++ r)
theorem Left.step {h k : Nat} {S T S' T' sh : List Int} {m m' x : Int} (hh : h ≤ 6) (hk : 1 ≤ k) (l : Left h (k + 1) S T S' T' sh m m') (r : RoomOf k S' T' m' x) : Left h k S T (fixL k S' x) (fixL k T' x) (sh ++ [x]) m (m' - x) := by
  have ln := l.len
  refine ⟨hk, by rw [List.length_append]; show sh.length + 1 + k = h; omega, tab_fix l.tS r.a, tab_fix l.tT r.b, part_fix l.tS l.tT l.part r, ?_, fun r' hr u1 u2 => ?_⟩
  · have := l.sum
    rw [List.sum_append]
    show sh.sum + (x + 0) + (m' - x) = m
    omega
  · have := l.ext (x :: r') (by rw [List.length_cons, hr]) (under_fix (by omega) u1) (under_fix (by omega) u2)
    rw [List.append_assoc]
    exact this
theorem Left.done {h : Nat} {S T S' T' sh : List Int} {m m' : Int} (l : Left h 1 S T S' T' sh m m') : Under h S (sh ++ [m']) ∧ Under h T (sh ++ [m']) ∧ (sh ++ [m']).sum = m ∧ (sh ++ [m']).length = h := by
  have p0 := l.part 0 (by decide)
  have p1 := l.part 1 (by decide)
  have zS := l.tS.zero
  have zT := l.tT.zero
  rw [show 2 ^ 1 - 1 - 0 = 1 by decide] at p0
  rw [show 2 ^ 1 - 1 - 1 = 0 by decide] at p1
  obtain ⟨u1, u2⟩ := l.ext [m'] rfl (under_one zS (by omega)) (under_one zT (by omega))
  refine ⟨u1, u2, ?_, ?_⟩
  · have := l.sum
    rw [List.sum_append]
    show sh.sum + (m' + 0) = m
    omega
  · have := l.len
    rw [List.length_append]
    exact this
theorem cl_common (D : Df K mg "common" s_common ["one", "other"] f fd) (B : Bl mg) (C_look_at_falling : Cl P w K mg base 5 "look_at_falling" ["one", "other"] (spLookFalling K)) (C_parting : Cl P w K mg base 2 "parting" ["one", "other"] (spParting K))
    (C_first_room : Cl P w K mg base 2 "first_room" ["one", "other", "least"] (spFirstRoom K)) (C_fixed_hand : Cl P w K mg base 2 "fixed_hand" ["table", "hand", "share"] (spFixedHand K)) :
    Cl P w K mg base 6 "common" ["one", "other"] (spCommon K) := D.cl (by
  refine D.F.ok sc_common (fun vs H Q E h => ?_) (fun cdv A outer s H vs Q E hr h => ?_)
  · obtain ⟨a, b, S, T, h, rfl, _⟩ := h
    rfl
  · obtain ⟨a, b, S, T, h, rfl, hA, hB, tS, tT, h1, hh, q⟩ := h
    refine ⟨_, PSs.nox (pss_cons (ps_expr (pe_cl C_look_at_falling (hr.mono (by decide)) (by rfl) (pa_cons (pv 0) (pa_cons (pv 1) pa_nil))))
  (pss_cons (ps_asg (pe_cl C_parting (hr.mono (by decide)) (by rfl) (pa_cons (pv 0) (pa_cons (pv 1) pa_nil))) (pg_tup rfl (pgs_cons (pg_name (i := 2) sc_common.nd rfl (.inl rfl)) (pgs_cons (pg_name (i := 3) sc_common.nd rfl (.inl rfl)) pgs_nil))))
  (pss_cons (ps_set (i := 4) sc_common.nd rfl (.inl rfl) (pe_lst pa_nil))
  (pss_cons (ps_while PassesOwn.never (pt_cmpR op_gt (pe_callB (r := lenR K) call_lenK (by rfl) B.len PySem.boot_len (pa_cons (pv 0) pa_nil)) pe_int (nomark _))
  (pss_cons (ps_set (i := 5) sc_common.nd rfl (.inl rfl) (pe_cl C_first_room (hr.mono (by decide)) (by rfl) (pa_cons (pv 0) (pa_cons (pv 1) (pa_cons (pv 3) pa_nil)))))
  (pss_cons (ps_expr (pe_bm PySem.F.plainAttrs_list PySem.F.slot_list_append PySem.F.type_list_append mt_append (pv 4) (pa_cons (pv 5) pa_nil)))
  (pss_cons (ps_set (i := 0) sc_common.nd rfl (.inl rfl) (pe_cl C_fixed_hand (hr.mono (by decide)) (by rfl) (pa_cons (pv 0) (pa_cons pe_int (pa_cons (pv 5) pa_nil)))))
  (pss_cons (ps_set (i := 1) sc_common.nd rfl (.inl rfl) (pe_cl C_fixed_hand (hr.mono (by decide)) (by rfl) (pa_cons (pv 1) (pa_cons pe_int (pa_cons (pv 5) pa_nil)))))
  (pss_one (ps_set (i := 3) sc_common.nd rfl (.inl rfl) (pe_op op_sub (pv 3) (pv 5)))))))))
  (pss_one (ps_ret (pe_tup (pa_cons (pe_op op_cat (pv 4) (pe_lst (pa_cons (pv 3) pa_nil))) (pa_cons (pv 2) pa_nil))))))))), ?_⟩
    refine ⟨_, rfl, _, rfl, a, b, S, T, h, rfl, SqL.of hA, SqL.of hB, tS, tT, hh, fun H1 s1 => ?_⟩
    refine ⟨_, rfl, _, rfl, a, b, S, T, h, rfl, SqL.of (s1 _ _ hA), SqL.of (s1 _ _ hB), tS.len, tT.len, hh, fun H2 t j m s2 nt et hj ej pm lj => ?_⟩
    have s02 := s1.trans s2
    refine ⟨t, _, rfl, SqT.of et, rfl, _, _, rfl, _, _, rfl, rfl, ?_⟩
    refine ⟨Nat.zero_le _, fun p np => ?_⟩
    have nHp : H p = none := s02.free np
    refine ⟨fun k σ H' => ∃ (a' b' : Addr) (S' T' sh : List Int) (m' : Int) (v5 : Option V), σ = [some (.ref a'), some (.ref b'), some (.int (j : Int)), some (.int m'), some (.ref p), v5] ∧ Same H H' ∧ H' p = some (.lst (sh.map V.int)) ∧
        H' a' = some (.lst (S'.map V.int)) ∧ H' b' = some (.lst (T'.map V.int)) ∧ a' ≠ p ∧ b' ≠ p ∧ Left h k S T S' T' sh m m',
      ⟨h, a, b, S, T, [], m, none, rfl, same_put s02 nHp, upd_same, ?_, ?_, ne_of_none hA nHp, ne_of_none hB nHp, ⟨h1, by show 0 + h = h; omega, tS, tT, pm, by show 0 + m = m; omega, fun r _ u1 u2 => ⟨u1, u2⟩⟩⟩, ?_⟩
    · rw [upd_ne (ne_of_none hA nHp)]
      exact s02 _ _ hA
    · rw [upd_ne (ne_of_none hB nHp)]
      exact s02 _ _ hB
    rintro k σ H3 ⟨a', b', S', T', sh, m', v5, rfl, s3, ep, ea, eb, na, nb, l⟩
    refine ⟨_, rfl, a', _, rfl, .inl (SqL.of ea), _, _, rfl, rfl, _, rfl, ?_⟩
    have lS : (S'.map V.int).length = 2 ^ k := by rw [List.length_map, l.tS.len]
    have lk := l.k1
    have ln := l.len
    refine ite2 (fun e => ?_) (fun e => ?_)
    · have e2 : (2 : Int) < ((S'.map V.int).length : Int) := of_decide_eq_true e
      rw [lS] at e2
      obtain ⟨k', rfl⟩ : ∃ k', k = k' + 1 := ⟨k - 1, by omega⟩
      have hk' : 1 ≤ k' := by
        cases k' with
        | zero =>
          have : (2 : Nat) ^ (0 + 1) = 2 := rfl
          rw [this] at e2
          omega
        | succ n => omega
      refine ⟨fun σ' H' => ∃ (a' b' : Addr) (S' T' sh : List Int) (m' : Int) (v5 : Option V), σ' = [some (.ref a'), some (.ref b'), some (.int (j : Int)), some (.int m'), some (.ref p), v5] ∧ Same H H' ∧ H' p = some (.lst (sh.map V.int)) ∧
        H' a' = some (.lst (S'.map V.int)) ∧ H' b' = some (.lst (T'.map V.int)) ∧ a' ≠ p ∧ b' ≠ p ∧ Left h k' S T S' T' sh m m', fun σ' H' hN => ⟨k', by omega, hN⟩, ?_⟩
      refine ⟨_, rfl, _, rfl, _, rfl, a', b', S', T', k', m', rfl, SqL.of ea, SqL.of eb, l.tS.len, l.tT.len, by omega, fun H4 x s4 ro => ?_⟩
      have l' := l.step hh hk' ro
      refine ⟨_, rfl, .inl ⟨rfl, _, SqL.of (s4 _ _ ep)⟩, _, rfl, p, _, _, rfl, rfl, s4 _ _ ep, ?_, ?_⟩
      · rw [List.length_map]
        exact small1000 (by omega)
      have ea4 : (upd H4 p (.lst (sh.map V.int ++ [.int x]))) a' = some (.lst (S'.map V.int)) := by
        rw [upd_ne na]
        exact s4 _ _ ea
      have eb4 : (upd H4 p (.lst (sh.map V.int ++ [.int x]))) b' = some (.lst (T'.map V.int)) := by
        rw [upd_ne nb]
        exact s4 _ _ eb
      refine ⟨_, rfl, _, rfl, a', S', k', x, rfl, SqL.of ea4, l.tS.len, by omega, ro.a, fun H5 p1 s5 n5 e5 => ?_⟩
      refine ⟨_, rfl, _, rfl, b', T', k', x, rfl, SqL.of (s5 _ _ eb4), l.tT.len, by omega, ro.b, fun H6 p2 s6 n6 e6 => ?_⟩
      refine ⟨_, rfl, _, rfl, _, _, rfl, rfl, ?_⟩
      have ep5 : H5 p = some (.lst (sh.map V.int ++ [.int x])) := s5 _ _ upd_same
      refine ⟨p1, p2, _, _, sh ++ [x], _, _, rfl, ?_, ?_, s6 _ _ e5, e6, ?_, ?_, l'⟩
      · exact ((same_put (s3.trans s4) nHp).trans s5).trans s6
      · rw [s6 _ _ ep5, List.map_append]
        rfl
      · intro z
        rw [z, upd_same] at n5
        cases n5
      · intro z
        rw [z, ep5] at n6
        cases n6
    · have k1 : k = 1 := by
        have e2 : ¬ (2 : Int) < ((S'.map V.int).length : Int) := fun z => e (decide_eq_true z)
        rw [lS] at e2
        cases k with
        | zero => omega
        | succ k => cases k with
          | zero => rfl
          | succ k =>
            have : 2 ^ 2 ≤ 2 ^ (k + 1 + 1) := Nat.pow_le_pow_right (by omega) (by omega)
            omega
      subst k1
      obtain ⟨u1, u2, sm, ll⟩ := l.done
      refine ⟨_, rfl, _, rfl, (by show 1 ≤ sizeLine; decide), fun p1 np1 => ?_⟩
      have npp : p ≠ p1 := ne_of_none ep np1
      refine ⟨p, p1, _, _, rfl, rfl, by rw [upd_ne npp]; exact ep, upd_same, ?_, fun p2 np2 => ?_⟩
      · rw [List.length_map]
        exact Nat.le_of_lt (small1000 (n := sh.length + 1) (by omega))
      refine ⟨_, rfl, (by show 2 ≤ sizeLine; decide), fun t2 nt2 => ?_⟩
      have nH2 : H p2 = none := (same_put s3 (s3.free np1)).free np2
      refine q _ t2 p2 (sh ++ [m']) j m ?_ nH2 upd_same ?_ ll u1 u2 sm hj ej pm
      · exact same_put (same_put (same_put s3 (s3.free np1)) nH2) ((same_put (same_put s3 (s3.free np1)) nH2).free nt2)
      · have n2 : p2 ≠ t2 := fun z => by
          rw [← z, upd_same] at nt2
          cases nt2
        rw [upd_ne n2, upd_same, List.map_append]
        rfl)
/-! ### the cheapest groups -/
abbrev s_cost_with : Stmt := top 26
theorem sc_cost_with : FnScope ["table", "prices", "group"] ["table", "prices", "group"] (defScope s_cost_with) := ⟨rfl, rfl, rfl, by decide +kernel, rfl, by decide +kernel, by decide +kernel⟩
def cstF (T ns : List Int) (h g : Nat) : Int := gt T g + giv ns (2 ^ h - 1 - g)
def spCostWith (K : PySem.W.Frag) : Sp := fun vs H Q _ => ∃ (a b : Addr) (T ns : List Int) (h g : Nat), vs = [.ref a, .ref b, .int (g : Int)] ∧ SqL K H a (T.map V.int) ∧ SqL K H b (ns.map V.int) ∧ T.length = 2 ^ h ∧ ns.length = h ∧ h ≤ 6 ∧ g < 2 ^ h ∧
  ∀ H', Same H H' → Q (.int (cstF T ns h g)) H'
theorem cl_cost_with (D : Df K mg "cost_with" s_cost_with ["table", "prices", "group"] f fd) (C_row_gives : Cl P w K mg base 2 "row_gives" ["row", "group"] (spRowGives K)) (C_everybody : Cl P w K mg base 1 "everybody" ["table"] (spEverybody K)) :
    Cl P w K mg base 3 "cost_with" ["table", "prices", "group"] (spCostWith K) := D.cl (by
  refine D.F.ok sc_cost_with (fun vs H Q E h => ?_) (fun cdv A outer s H vs Q E hr h => ?_)
  · obtain ⟨a, b, T, ns, h, g, rfl, _⟩ := h
    rfl
  · obtain ⟨a, b, T, ns, h, g, rfl, hA, hB, lA, lB, hh, hg, q⟩ := h
    refine ⟨_, PSs.nox (pss_one (ps_ret (pe_op op_add (pe_ix (r := rIxL K) ix_list (pv 0) (pv 2) (fun _ _ => rfl)) (pe_cl C_row_gives (hr.mono (by decide)) (by rfl) (pa_cons (pv 1) (pa_cons (pe_op op_sub (pe_cl C_everybody (hr.mono (by decide)) (by rfl) (pa_cons (pv 0) pa_nil)) (pv 2)) pa_nil)))))), ?_⟩
    refine ⟨_, rfl, _, rfl, a, _, _, _, rfl, rfl, hA, ints_atI (by omega), ?_⟩
    refine ⟨_, rfl, _, rfl, a, _, rfl, hA, _, rfl, _, _, rfl, rfl, b, ns, 2 ^ h - 1 - g, ?_, hB, by rw [lB]; omega, by omega, fun H1 s1 => ?_⟩
    · have e : ((T.map V.int).length : Int) - 1 - (g : Int) = ((2 ^ h - 1 - g : Nat) : Int) := by
        rw [List.length_map, lA]
        omega
      show [V.ref b, V.int (((T.map V.int).length : Int) - 1 - (g : Int))] = _
      rw [e]
    · exact ⟨_, _, rfl, rfl, q H1 s1⟩)
abbrev s_all_costs : Stmt := top 27
theorem sc_all_costs : FnScope ["table", "prices", "group"] ["table", "prices"] (defScope s_all_costs) := ⟨rfl, rfl, rfl, by decide +kernel, rfl, by decide +kernel, by decide +kernel⟩
def spAllCosts (K : PySem.W.Frag) : Sp := fun vs H Q _ => ∃ (a b : Addr) (T ns : List Int) (h : Nat), vs = [.ref a, .ref b] ∧ SqL K H a (T.map V.int) ∧ SqL K H b (ns.map V.int) ∧ T.length = 2 ^ h ∧ ns.length = h ∧ h ≤ 6 ∧
  ∀ H' p, Same H H' → H p = none → H' p = some (.lst ((tabL (2 ^ h) (cstF T ns h)).map V.int)) → Q (.ref p) H'
theorem cl_all_costs (D : Df K mg "all_costs" s_all_costs ["table", "prices"] f fd) (B : Bl mg) (C_cost_with : Cl P w K mg base 3 "cost_with" ["table", "prices", "group"] (spCostWith K)) :
    Cl P w K mg base 4 "all_costs" ["table", "prices"] (spAllCosts K) := D.cl (by
  refine D.F.ok sc_all_costs (fun vs H Q E h => ?_) (fun cdv A outer s H vs Q E hr h => ?_)
  · obtain ⟨a, b, T, ns, h, rfl, _⟩ := h
    rfl
  · obtain ⟨a, b, T, ns, h, rfl, hA, hB, lA, lB, hh, q⟩ := h
    have h64 := pow_small hh
    have hl : (T.map V.int).length = 2 ^ h := by rw [List.length_map, lA]
    refine ⟨_, PSs.nox (pss_one (ps_ret (pe_lc (own := [("group", 2)]) (g := gName 2) rfl sc_all_costs.nd (pi_range1 (by rfl) B.range (pa_cons (pe_callB (r := lenR K) call_lenK (by rfl) B.len PySem.boot_len (pa_cons (pv 0) pa_nil)) pa_nil)) (blkOk_by (own := [("group", 2)]) (N := ["table", "prices", "group"]) (sc := defScope s_all_costs) (by decide +kernel))
    (fun _ _ _ _ _ => (pg_name (i := 2) sc_all_costs.nd rfl (.inl rfl))) (fun _ _ _ _ _ => pts_nil)
    (fun _ _ _ _ _ => (pe_cl C_cost_with (hr.mono (by decide)) (by rfl) (pa_cons (pv 0) (pa_cons (pv 1) (pa_cons (pv 2) pa_nil)))))))), ?_⟩
    refine ⟨_, rfl, a, _, rfl, .inl hA, _, rfl, rng_lo, rng_hi (by omega), fun D1 nD => ?_⟩
    refine lc_rngYJ (n := 2 ^ h) (congrArg _ hl) (fun i => .int (cstF T ns h i)) nD (by omega) (fun _ => rfl) ?_ ?_
    · intro i H1 R hi s1 k
      exact ⟨_, rfl, _, rfl, _, rfl, a, b, T, ns, h, i, rfl, s1.seq hA, s1.seq hB, lA, lB, hh, hi, k⟩
    · intro H1 s1 e1
      rw [map_int] at e1
      exact q H1 D1 s1 nD e1)
abbrev s_least_cost : Stmt := top 28
theorem sc_least_cost : FnScope ["table", "prices"] ["table", "prices"] (defScope s_least_cost) := ⟨rfl, rfl, rfl, by decide +kernel, rfl, by decide +kernel, by decide +kernel⟩
def spLeastCost (K : PySem.W.Frag) : Sp := fun vs H Q _ => ∃ (a b : Addr) (T ns : List Int) (h : Nat), vs = [.ref a, .ref b] ∧ SqL K H a (T.map V.int) ∧ SqL K H b (ns.map V.int) ∧ T.length = 2 ^ h ∧ ns.length = h ∧ h ≤ 6 ∧
  ∀ H' m, Same H H' → (∃ g, g < 2 ^ h ∧ m = cstF T ns h g) → (∀ g, g < 2 ^ h → m ≤ cstF T ns h g) → Q (.int m) H'
theorem cl_least_cost (D : Df K mg "least_cost" s_least_cost ["table", "prices"] f fd) (B : Bl mg) (C_all_costs : Cl P w K mg base 4 "all_costs" ["table", "prices"] (spAllCosts K)) :
    Cl P w K mg base 5 "least_cost" ["table", "prices"] (spLeastCost K) := D.cl (by
  refine D.F.ok sc_least_cost (fun vs H Q E h => ?_) (fun cdv A outer s H vs Q E hr h => ?_)
  · obtain ⟨a, b, T, ns, h, rfl, _⟩ := h
    rfl
  · obtain ⟨a, b, T, ns, h, rfl, hA, hB, lA, lB, hh, q⟩ := h
    refine ⟨_, PSs.nox (pss_one (ps_ret (pe_callB (cr_min rfl) (by rfl) B.min boot_min (pa_cons (pe_cl C_all_costs (hr.mono (by decide)) (by rfl) (pa_cons (pv 0) (pa_cons (pv 1) pa_nil))) pa_nil)))), ?_⟩
    refine ⟨_, rfl, _, rfl, a, b, T, ns, h, rfl, hA, hB, lA, lB, hh, fun H1 p s1 np ep => ?_⟩
    refine ⟨p, _, rfl, SqL.of ep, by rw [tabL_len]; exact Nat.two_pow_pos h, fun m hm hle => ?_⟩
    exact q H1 m s1 (mem_tabL hm) fun g hg => hle _ (tabL_mem _ hg))
abbrev s_cheapest_groups : Stmt := top 29
theorem sc_cheapest_groups : FnScope ["table", "prices", "costs", "floor", "group"] ["table", "prices"] (defScope s_cheapest_groups) := ⟨rfl, rfl, rfl, by decide +kernel, rfl, by decide +kernel, by decide +kernel⟩
def spCheapest (K : PySem.W.Frag) : Sp := fun vs H Q _ => ∃ (a b : Addr) (T ns : List Int) (h : Nat), vs = [.ref a, .ref b] ∧ SqL K H a (T.map V.int) ∧ SqL K H b (ns.map V.int) ∧ T.length = 2 ^ h ∧ ns.length = h ∧ h ≤ 6 ∧
  ∀ H' p m, Same H H' → H p = none → (∃ g, g < 2 ^ h ∧ m = cstF T ns h g) → (∀ g, g < 2 ^ h → m ≤ cstF T ns h g) → H' p = some (.lst (((List.range (2 ^ h)).filter fun g => decide (cstF T ns h g = m)).map fun (g : Nat) => V.int (g : Int))) → Q (.ref p) H'
theorem cl_cheapest_groups (D : Df K mg "cheapest_groups" s_cheapest_groups ["table", "prices"] f fd) (B : Bl mg) (C_all_costs : Cl P w K mg base 4 "all_costs" ["table", "prices"] (spAllCosts K)) :
    Cl P w K mg base 5 "cheapest_groups" ["table", "prices"] (spCheapest K) := D.cl (by
  refine D.F.ok sc_cheapest_groups (fun vs H Q E h => ?_) (fun cdv A outer s H vs Q E hr h => ?_)
  · obtain ⟨a, b, T, ns, h, rfl, _⟩ := h
    rfl
  · obtain ⟨a, b, T, ns, h, rfl, hA, hB, lA, lB, hh, q⟩ := h
    have h64 := pow_small hh
    refine ⟨_, PSs.nox (pss_cons (ps_set (i := 2) sc_cheapest_groups.nd rfl (.inr rfl) (pe_cl C_all_costs (hr.mono (by decide)) (by rfl) (pa_cons (pv 0) (pa_cons (pv 1) pa_nil))))
  (pss_cons (ps_set (i := 3) sc_cheapest_groups.nd rfl (.inr rfl) (pe_callB (cr_min rfl) (by rfl) B.min boot_min (pa_cons (pv 2) pa_nil)))
  (pss_one (ps_ret (pe_lc (own := [("group", 4)]) (g := gName 4) rfl sc_cheapest_groups.nd (pi_range1 (by rfl) B.range (pa_cons (pe_callB (r := lenR K) call_lenK (by rfl) B.len PySem.boot_len (pa_cons (pv 2) pa_nil)) pa_nil)) (blkOk_by (own := [("group", 4)]) (N := ["table", "prices", "costs", "floor", "group"]) (sc := defScope s_cheapest_groups) (by decide +kernel))
    (fun _ _ _ _ _ => (pg_name (i := 4) sc_cheapest_groups.nd rfl (.inl rfl))) (fun _ _ _ _ _ => (pts_one (pt_cmpR op_eq (pe_ix (r := rIxL K) ix_list (pv 2) (pv 4) (fun _ _ => rfl)) (pv 3) (nomark _))))
    (fun _ _ _ _ _ => (pv 4))))))), ?_⟩
    refine ⟨_, rfl, _, rfl, a, b, T, ns, h, rfl, hA, hB, lA, lB, hh, fun H1 p s1 np ep => ?_⟩
    refine ⟨_, rfl, p, _, rfl, SqL.of ep, by rw [tabL_len]; exact Nat.two_pow_pos h, fun m hm hle => ?_⟩
    refine ⟨_, rfl, p, _, rfl, .inl (SqL.of ep), _, rfl, rng_lo, rng_hi (by rw [List.length_map, tabL_len]; omega), fun D1 nD => ?_⟩
    refine lc_rngJ (n := 2 ^ h) (by rw [List.length_map, tabL_len]) (fun g => decide (cstF T ns h g = m)) (fun g => .int (g : Int)) nD (by omega) (fun _ => rfl) ?_ ?_ ?_
    · intro i H2 R hi s2 r
      refine ⟨_, rfl, _, rfl, p, _, _, _, rfl, rfl, SqL.of (s2 _ _ ep), ints_atI (by rw [tabL_len]; exact hi), _, rfl, rfl, _, rfl, ?_⟩
      rw [gt_tabL _ hi, show decide (V.int (cstF T ns h i) = V.int m) = decide (cstF T ns h i = m) from decide_eq_decide.mpr ⟨V.int.inj, congrArg _⟩]
      exact r H2 (Same.refl _)
    · intro i H2 R hi hb s2 r
      exact ⟨_, rfl, r H2 (Same.refl _)⟩
    · intro H2 s2 e2
      exact q H2 D1 m (s1.trans s2) (s1.free nD) (mem_tabL hm) (fun g hg => hle _ (tabL_mem _ hg)) e2)
end
end Gc
namespace Gc
open PySem PySem.Spec PyProof.Rows L2
section
variable {P : Program} {w : World} {K : PySem.W.Frag} {mg : Str → Option Value} {base : Heap} {f : Addr} {fd : FuncData}
/-! ### cells -/
abbrev s_law_cell : Stmt := top 31
theorem sc_law_cell : FnScope ["script", "k"] ["script", "k"] (defScope s_law_cell) := ⟨rfl, rfl, rfl, by decide +kernel, rfl, by decide +kernel, by decide +kernel⟩
def spCell (K : PySem.W.Frag) : Sp := fun vs H Q _ => ∃ (a : Addr) (ns : List Int) (k : Nat), vs = [.ref a, .int (k : Int)] ∧ SqL K H a (ns.map V.int) ∧ ∀ c : Int, 0 ≤ c → Q (.int c) H
theorem cl_law_cell (D : Df K mg "_law_cell" s_law_cell ["script", "k"] f fd) (B : Bl mg) : Cl P w K mg base 1 "_law_cell" ["script", "k"] (spCell K) := D.cl (by
  refine D.F.ok sc_law_cell (fun vs H Q E h => ?_) (fun cdv A outer s H vs Q E hr h => ?_)
  · obtain ⟨a, ns, k, rfl, _⟩ := h
    rfl
  · obtain ⟨a, ns, k, rfl, hS, q⟩ := h
    refine ⟨_, PSs.nox (pss_cons (ps_if (pt_cmpR op_lt (pv 1) (pe_callB (r := lenR K) call_lenK (by rfl) B.len PySem.boot_len (pa_cons (pv 0) pa_nil)) (nomark _))
  (pss_one (ps_ret (pe_op op_modP (pe_ix (r := rIxL K) ix_list (pv 0) (pv 1) (fun _ _ => rfl)) pe_int))) pss_nil)
  (pss_one (ps_ret pe_int))), ?_⟩
    refine ⟨_, rfl, _, rfl, a, _, rfl, .inl hS, _, _, rfl, rfl, _, rfl, ite2 (fun e => ?_) (fun e => ?_)⟩
    · have hk : k < ns.length := by
        have := of_decide_eq_true e
        rw [List.length_map] at this
        omega
      refine ⟨_, rfl, _, rfl, a, _, _, _, rfl, rfl, hS, ints_atI hk, _, _, rfl, rfl, by decide, ?_⟩
      exact q _ (Int.emod_nonneg _ (by decide))
    · exact q 0 (by decide))
abbrev s_law_mixed : Stmt := top 32
theorem sc_law_mixed : FnScope ["cell", "k", "number"] ["cell", "k"] (defScope s_law_mixed) := ⟨rfl, rfl, rfl, by decide +kernel, rfl, by decide +kernel, by decide +kernel⟩
def mixF (c k : Int) : Int := ((c + 7919 * k * k + k) % 2147483647 * ((c + 7919 * k * k + k) % 2147483647) % 1000000007 + c / 2147483647) * 48271 % 998244353
theorem mixF_bd (c k : Int) : 0 ≤ mixF c k ∧ mixF c k < 998244353 := by
  unfold mixF
  omega
def spMixed : Sp := fun vs H Q _ => ∃ c k : Int, vs = [.int c, .int k] ∧ 0 ≤ k ∧ k ≤ 1000 ∧ Q (.int (mixF c k)) H
theorem cl_law_mixed (D : Df K mg "_law_mixed" s_law_mixed ["cell", "k"] f fd) : Cl P w K mg base 1 "_law_mixed" ["cell", "k"] spMixed := D.cl (by
  refine D.F.ok sc_law_mixed (fun vs H Q E h => ?_) (fun cdv A outer s H vs Q E hr h => ?_)
  · obtain ⟨c, k, rfl, _⟩ := h
    rfl
  · obtain ⟨c, k, rfl, h0, h1, q⟩ := h
    have b1 : 0 ≤ (c + 7919 * k * k + k) % 2147483647 := Int.emod_nonneg _ (by decide)
    have b2 : (c + 7919 * k * k + k) % 2147483647 < 2147483647 := Int.emod_lt_of_pos _ (by decide)
    refine ⟨_, PSs.nox (pss_cons (ps_set (i := 2) sc_law_mixed.nd rfl (.inl rfl) (pe_op op_modP (pe_op op_add (pe_op op_add (pv 0) (pe_op op_mul (pe_op op_mul pe_int (pv 1)) (pv 1))) (pv 1)) pe_int))
  (pss_cons (ps_set (i := 2) sc_law_mixed.nd rfl (.inl rfl) (pe_op op_modP (pe_op op_mul (pv 2) (pv 2)) pe_int))
  (pss_one (ps_ret (pe_op op_modP (pe_op op_mul (pe_op op_add (pv 2) (pe_op op_fdivW (pv 0) pe_int)) pe_int) pe_int))))), ?_⟩
    refine ⟨_, rfl, _, rfl, _, _, rfl, rfl, .inl ⟨by decide, by decide⟩, _, rfl, _, _, rfl, rfl, .inr ⟨by omega, by omega⟩, _, _, rfl, rfl, _, rfl, _, _, rfl, rfl, _, _, rfl, rfl, by decide, ?_⟩
    refine ⟨_, rfl, _, rfl, _, _, rfl, rfl, .inl ⟨by omega, by omega⟩, _, _, rfl, rfl, by decide, ?_⟩
    exact ⟨_, rfl, _, rfl, _, _, rfl, rfl, ⟨by decide, by decide +kernel⟩, _, _, rfl, rfl, _, _, rfl, rfl, .inr ⟨by decide, by decide⟩, _, _, rfl, rfl, by decide, q⟩)
abbrev s_law_whole : Stmt := top 33
theorem sc_law_whole : FnScope ["found"] ["found"] (defScope s_law_whole) := ⟨rfl, rfl, rfl, by decide +kernel, rfl, by decide +kernel, by decide +kernel⟩
def spWhole : Sp := fun vs H Q _ => ∃ i : Int, vs = [.int i] ∧ Q (.bl true) H
theorem cl_law_whole (D : Df K mg "_law_whole" s_law_whole ["found"] f fd) (B : Bl mg) : Cl P w K mg base 1 "_law_whole" ["found"] spWhole := D.cl (by
  refine D.F.ok sc_law_whole (fun vs H Q E h => ?_) (fun cdv A outer s H vs Q E hr h => ?_)
  · obtain ⟨i, rfl, _⟩ := h
    rfl
  · obtain ⟨i, rfl, q⟩ := h
    refine ⟨_, PSs.nox (pss_one (ps_ret (pe_and (pe_callB call_isi (by rfl) B.isinstance b_isinstance (pa_cons (pv 0) (pa_cons (pe_bltn (v := .ty "int") (by rfl) B.int b_int rfl) pa_nil))) (pe_one (pe_not (pe_callB call_isi (by rfl) B.isinstance b_isinstance (pa_cons (pv 0) (pa_cons (pe_bltn (v := .ty "bool") (by rfl) B.bool b_bool rfl) pa_nil)))))))), ?_⟩
    refine ⟨_, rfl, _, _, _, _, true, rfl, .ty "int", .base (.int i), kit_ty (by decide +kernel), true, rfl, iteT ?_⟩
    exact ⟨_, rfl, _, _, _, _, false, rfl, .ty "bool", .base (.int i), kit_ty (by decide +kernel), false, rfl, q⟩)
abbrev s_law_hands : Stmt := top 34
theorem sc_law_hands : FnScope ["group", "k"] ["group"] (defScope s_law_hands) := ⟨rfl, rfl, rfl, by decide +kernel, rfl, by decide +kernel, by decide +kernel⟩
def spHands : Sp := fun vs H Q _ => ∃ n : Nat, vs = [.int (n : Int)] ∧ ∀ H' p, Same H H' → H p = none → H' p = some (.lst ((hin n).map fun (k : Nat) => V.int (k : Int))) → Q (.ref p) H'
theorem cl_law_hands (D : Df K mg "_law_hands" s_law_hands ["group"] f fd) (B : Bl mg) : Cl P w K mg base 1 "_law_hands" ["group"] spHands := D.cl (by
  refine D.F.ok sc_law_hands (fun vs H Q E h => ?_) (fun cdv A outer s H vs Q E hr h => ?_)
  · obtain ⟨n, rfl, _⟩ := h
    rfl
  · obtain ⟨n, rfl, q⟩ := h
    refine ⟨_, PSs.nox (pss_one (ps_ret (pe_lc (own := [("k", 1)]) (g := gName 1) rfl sc_law_hands.nd (pi_range1 (by rfl) B.range (pa_cons pe_int pa_nil)) (blkOk_by (own := [("k", 1)]) (N := ["group", "k"]) (sc := defScope s_law_hands) (by decide +kernel))
    (fun _ _ _ _ _ => (pg_name (i := 1) sc_law_hands.nd rfl (.inl rfl))) (fun _ _ _ _ _ => (pts_one (pt_cmpR op_eq (pe_op op_andNN (pe_op op_shrNN (pv 0) (pv 1)) pe_int) pe_int (nomark _))))
    (fun _ _ _ _ _ => (pv 1))))), ?_⟩
    refine ⟨_, rfl, by decide, by decide, fun D1 nD => ?_⟩
    refine lc_rngJ (n := 6) rfl (fun k => n.testBit k) (fun k => .int (k : Int)) nD (by omega) (fun _ => rfl) ?_ ?_ ?_
    · intro k H2 R hk s2 r
      refine ⟨_, rfl, _, rfl, n, k, rfl, rfl, _, 1, rfl, rfl, rfl, _, rfl, ?_⟩
      rw [bit_eq]
      exact r H2 (Same.refl _)
    · intro k H2 R hk hb s2 r
      exact ⟨_, rfl, r H2 (Same.refl _)⟩
    · intro H2 s2 e2
      exact q H2 D1 s2 nD e2)
abbrev s_law_given : Stmt := top 35
theorem sc_law_given : FnScope ["row", "group", "k"] ["row", "group"] (defScope s_law_given) := ⟨rfl, rfl, rfl, by decide +kernel, rfl, by decide +kernel, by decide +kernel⟩
def spGiven (K : PySem.W.Frag) : Sp := fun vs H Q _ => ∃ (a : Addr) (ns : List Int) (n : Nat), vs = [.ref a, .int (n : Int)] ∧ SqL K H a (ns.map V.int) ∧ ns.length ≤ 6 ∧ ∀ H', Same H H' → Q (.int (giv ns n)) H'
theorem cl_law_given (D : Df K mg "_law_given" s_law_given ["row", "group"] f fd) (B : Bl mg) : Cl P w K mg base 1 "_law_given" ["row", "group"] (spGiven K) := D.cl (by
  refine D.F.ok sc_law_given (fun vs H Q E h => ?_) (fun cdv A outer s H vs Q E hr h => ?_)
  · obtain ⟨a, ns, n, rfl, _⟩ := h
    rfl
  · obtain ⟨a, ns, n, rfl, hS, hl, q⟩ := h
    refine ⟨_, PSs.nox (pss_one (ps_ret (pe_callB (r := rSum K) (cr_sum rfl) (by rfl) B.sum boot_sum (pa_cons (pe_lc (own := [("k", 2)]) (g := gName 2) rfl sc_law_given.nd (pi_range1 (by rfl) B.range (pa_cons (pe_callB (r := lenR K) call_lenK (by rfl) B.len PySem.boot_len (pa_cons (pv 0) pa_nil)) pa_nil)) (blkOk_by (own := [("k", 2)]) (N := ["row", "group", "k"]) (sc := defScope s_law_given) (by decide +kernel))
    (fun _ _ _ _ _ => (pg_name (i := 2) sc_law_given.nd rfl (.inl rfl))) (fun _ _ _ _ _ => (pts_one (pt_cmpR op_eq (pe_op op_andNN (pe_op op_shrNN (pv 1) (pv 2)) pe_int) pe_int (nomark _))))
    (fun _ _ _ _ _ => (pe_ix (r := rIxL K) ix_list (pv 0) (pv 2) (fun _ _ => rfl)))) pa_nil)))), ?_⟩
    refine ⟨_, rfl, a, _, rfl, .inl hS, _, rfl, rng_lo, rng_hi (by rw [List.length_map]; omega), fun D1 nD => ?_⟩
    refine lc_rngJ (n := ns.length) (by rw [List.length_map]) (fun k => n.testBit k) (fun k => .int (gt ns k)) nD (by omega) (fun _ => rfl) ?_ ?_ ?_
    · intro k H2 R hk s2 r
      refine ⟨_, rfl, _, rfl, n, k, rfl, rfl, _, 1, rfl, rfl, rfl, _, rfl, ?_⟩
      rw [bit_eq]
      exact r H2 (Same.refl _)
    · intro k H2 R hk hb s2 r
      exact ⟨_, rfl, _, rfl, a, _, _, _, rfl, rfl, s2.seq hS, ints_atI hk, r H2 (Same.refl _)⟩
    · intro H2 s2 e2
      refine ⟨D1, ((List.range ns.length).filter fun k => n.testBit k).map (gt ns), rfl, ?_, ?_⟩
      · rw [List.map_map]
        exact SqL.of e2
      · rw [giv_len ns n hl]
        exact q H2 s2)
abbrev s_law_size : Stmt := top 36
theorem sc_law_size : FnScope ["cell"] ["cell"] (defScope s_law_size) := ⟨rfl, rfl, rfl, by decide +kernel, rfl, by decide +kernel, by decide +kernel⟩
def spSize : Sp := fun vs H Q _ => ∃ c : Int, vs = [.int c] ∧ ∀ (H' : Hp) (h : Nat), Same H H' → 1 ≤ h → h ≤ 6 → Q (.int (h : Int)) H'
def szL : List Int := [3, 2, 4, 1, 3, 4, 5, 2, 3, 4, 3, 6]
theorem szL_ok : ∀ j, j < 12 → gt szL j = ((gt szL j).toNat : Int) ∧ 1 ≤ (gt szL j).toNat ∧ (gt szL j).toNat ≤ 6 := by decide +kernel
theorem cl_law_size (D : Df K mg "_law_size" s_law_size ["cell"] f fd) : Cl P w K mg base 1 "_law_size" ["cell"] spSize := D.cl (by
  refine D.F.ok sc_law_size (fun vs H Q E h => ?_) (fun cdv A outer s H vs Q E hr h => ?_)
  · obtain ⟨c, rfl, _⟩ := h
    rfl
  · obtain ⟨c, rfl, q⟩ := h
    refine ⟨_, PSs.nox (pss_one (ps_ret (pe_ix (r := rIxL K) ix_list (pe_lst (pa_cons pe_int (pa_cons pe_int (pa_cons pe_int (pa_cons pe_int (pa_cons pe_int (pa_cons pe_int (pa_cons pe_int (pa_cons pe_int (pa_cons pe_int (pa_cons pe_int (pa_cons pe_int (pa_cons pe_int pa_nil))))))))))))) (pe_op op_modP (pv 0) pe_int) (fun _ _ => rfl)))), ?_⟩
    refine ⟨(by show 12 ≤ sizeLine; decide), fun p np => ?_⟩
    have e1 : 0 ≤ c % 12 := Int.emod_nonneg _ (by decide)
    have e2 : c % 12 < 12 := Int.emod_lt_of_pos _ (by decide)
    obtain ⟨j, ej⟩ : ∃ j : Nat, c % 12 = (j : Int) := ⟨(c % 12).toNat, by omega⟩
    have hj : j < 12 := by omega
    obtain ⟨z1, z2, z3⟩ := szL_ok j hj
    refine ⟨_, rfl, _, _, rfl, rfl, by decide, p, szL.map V.int, _, _, rfl, rfl, SqL.of upd_same, at_of ej (ints_at (T := szL) hj), ?_⟩
    rw [z1]
    exact q _ _ (same_new np) z2 z3)
/-! ### poured numbers, the row -/
abbrev s_law_poured : Stmt := top 37
theorem sc_law_poured : FnScope ["script", "many", "numbers", "k", "at", "more"] ["script", "many"] (defScope s_law_poured) := ⟨rfl, rfl, rfl, by decide +kernel, rfl, by decide +kernel, by decide +kernel⟩
def spPoured (K : PySem.W.Frag) : Sp := fun vs H Q _ => ∃ (a : Addr) (ns : List Int) (many : Nat), vs = [.ref a, .int (many : Int)] ∧ SqL K H a (ns.map V.int) ∧ ns.length ≤ 63 ∧ 1 ≤ many ∧ many ≤ 63 ∧
  ∀ H' p (zs : List Int), Same H H' → H p = none → H' p = some (.lst (zs.map V.int)) → zs.length = many → (∀ z ∈ zs, 0 ≤ z ∧ z < 10 ^ 60 + 7) → Q (.ref p) H'
theorem cl_law_poured (D : Df K mg "_law_poured" s_law_poured ["script", "many"] f fd) (B : Bl mg) (C_law_mixed : Cl P w K mg base 1 "_law_mixed" ["cell", "k"] spMixed) : Cl P w K mg base 2 "_law_poured" ["script", "many"] (spPoured K) := D.cl (by
  refine D.F.ok sc_law_poured (fun vs H Q E h => ?_) (fun cdv A outer s H vs Q E hr h => ?_)
  · obtain ⟨a, ns, many, rfl, _⟩ := h
    rfl
  · obtain ⟨a, ns, many, rfl, hS, hl, m1, m2, q⟩ := h
    refine ⟨_, PSs.nox (pss_cons (ps_setLc (i := 2) (own := [("k", 3)]) (g := gName 3) rfl sc_law_poured.nd rfl rfl (sw_true rfl rfl rfl (by decide +kernel)) (pi_range1 (by rfl) B.range (pa_cons (pv 1) pa_nil)) (blkOk_by (own := [("k", 3)]) (N := ["script", "many", "numbers", "k", "at", "more"]) (sc := defScope s_law_poured) (by decide +kernel))
    (fun _ _ _ _ _ => (pg_name (i := 3) sc_law_poured.nd rfl (.inl rfl))) (fun _ _ _ _ _ => pts_nil)
    (fun _ _ _ _ _ => (pe_cl C_law_mixed (hr.mono (by decide)) (by rfl) (pa_cons (pe_op op_add (pv 3) pe_int) (pa_cons (pv 3) pa_nil)))))
  (pss_cons (ps_for PassesOwn.never rfl (pi_range1 (by rfl) B.range (pa_cons (pe_callB (r := lenR K) call_lenK (by rfl) B.len PySem.boot_len (pa_cons (pv 0) pa_nil)) pa_nil)) (pg_name (i := 3) sc_law_poured.nd rfl (.inl rfl))
  (pss_cons (ps_set (i := 4) sc_law_poured.nd rfl (.inl rfl) (pe_op op_modP (pv 3) (pv 1)))
  (pss_cons (ps_set (i := 5) sc_law_poured.nd rfl (.inl rfl) (pe_op op_add (pe_op op_modP (pe_ix (r := rIxL K) ix_list (pv 0) (pv 3) (fun _ _ => rfl)) (pe_op op_add (pe_op op_pow pe_int pe_int) pe_int)) (pv 3)))
  (pss_one (ps_asg (pe_op op_modP (pe_op op_add (pe_op op_mul (pe_ix (r := rIxL K) ix_list (pv 2) (pv 4) (fun _ _ => rfl)) pe_int) (pe_op op_mul (pv 5) pe_int)) (pe_op op_add (pe_op op_pow pe_int pe_int) pe_int)) (pg_sub (pv 2) (pv 4) set_list))))))
  (pss_one (ps_ret (pv 2))))), ?_⟩
    refine ⟨_, rfl, _, rfl, rng_lo, rng_hi (by omega), fun D1 nD => ?_⟩
    refine lc_rngY (n := many) (fun k => .int (mixF ((k : Int) + 11) (k : Int))) nD (by omega) (fun _ => rfl) ?_ ?_
    · intro k H2 R hk s2 r
      exact ⟨_, rfl, _, _, rfl, rfl, _, rfl, _, _, rfl, by omega, by omega, r H2 (Same.refl _)⟩
    · intro H2 s2 e2
      rw [map_int (fun k => mixF ((k : Int) + 11) (k : Int))] at e2
      refine ⟨_, rfl, a, _, rfl, .inl (s2.seq hS), _, rfl, rng_lo, rng_hi (by rw [List.length_map]; omega), ?_⟩
      refine for_rngJ (n := ns.length) (by rw [List.length_map]) (fun i σ H' => ∃ (zs : List Int) (v3 v4 v5 : Option V), σ = [some (.ref a), some (.int (many : Int)), some (.ref D1), v3, v4, v5] ∧ Same H H' ∧ H' D1 = some (.lst (zs.map V.int)) ∧ zs.length = many ∧ ∀ z ∈ zs, 0 ≤ z ∧ z < 10 ^ 60 + 7)
        ⟨_, none, none, none, rfl, s2, e2, tabL_len _ _, fun z hz => ?_⟩ ?_ ?_
      · obtain ⟨g, _, rfl⟩ := mem_tabL hz
        have := mixF_bd ((g : Int) + 11) (g : Int)
        refine ⟨this.1, ?_⟩
        have h2 := this.2
        omega
      · rintro i σ H3 hi ⟨zs, v3, v4, v5, rfl, s3, e3, lz, bz⟩
        have hm : i % many < zs.length := by
          rw [lz]
          exact Nat.mod_lt _ (by omega)
        have em : (i : Int) % (many : Int) = ((i % many : Nat) : Int) := (Int.natCast_emod i many).symm
        refine ⟨_, rfl, _, rfl, _, _, rfl, rfl, by omega, ?_⟩
        refine ⟨_, rfl, _, rfl, a, _, _, _, rfl, rfl, s3.seq hS, ints_atI hi, _, _, rfl, rfl, ⟨by decide, by decide, by decide⟩, _, _, rfl, rfl, _, _, rfl, rfl, by decide, _, rfl, _, _, rfl, rfl, ?_⟩
        refine ⟨_, rfl, _, rfl, D1, _, _, _, rfl, rfl, SqL.of e3, at_of em (ints_at hm), _, _, rfl, rfl, .inr ⟨by decide, by decide⟩, _, rfl, _, _, rfl, rfl, .inr ⟨by decide, by decide⟩, _, _, rfl, rfl, ?_⟩
        refine ⟨_, _, rfl, rfl, ⟨by decide, by decide, by decide⟩, _, _, rfl, rfl, _, _, rfl, rfl, by decide, ?_⟩
        refine ⟨_, rfl, _, rfl, D1, _, _, i % many, rfl, rfl, e3, ?_, ?_⟩
        · rw [em]
          exact ixN_nat (by rw [List.length_map]; exact hm)
        · rw [map_set]
          refine ⟨_, _, _, _, rfl, same_put s3 nD, upd_same, by rw [List.length_set, lz], fun z hz => ?_⟩
          rcases List.mem_or_eq_of_mem_set hz with hz | rfl
          · exact bz z hz
          · exact ⟨Int.emod_nonneg _ (by decide), Int.emod_lt_of_pos _ (by decide)⟩
      · rintro σ H3 ⟨zs, v3, v4, v5, rfl, s3, e3, lz, bz⟩
        exact ⟨_, rfl, q H3 D1 zs s3 nD e3 lz bz⟩)
abbrev s_law_row : Stmt := top 38
theorem sc_law_row : FnScope ["number", "hands", "some", "k", "more"] ["number", "hands"] (defScope s_law_row) := ⟨rfl, rfl, rfl, by decide +kernel, rfl, by decide +kernel, by decide +kernel⟩
def wL : List Int := [1, 11, 121, 1331, 14641, 161051]
theorem wL_ok : ∀ j, j < 6 → 0 < gt wL j ∧ (gt wL j).natAbs.log2 < 9000 := by decide +kernel
def rowF (n : Int) (i : Nat) : Int := n / gt wL i % 11 - 5
def spRow : Sp := fun vs H Q _ => ∃ (n : Int) (h : Nat), vs = [.int n, .int (h : Int)] ∧ h ≤ 6 ∧
  ∀ H' p (zs : List Int), Same H H' → H p = none → H' p = some (.lst (zs.map V.int)) → zs.length = h → (∀ g, -(10 ^ 42) ≤ gt zs g ∧ gt zs g ≤ 10 ^ 42) → Q (.ref p) H'
theorem gt_bd {n : Nat} {f : Nat → Int} {b : Int} (hb : 0 ≤ b) (h : ∀ g, g < n → -b ≤ f g ∧ f g ≤ b) (g : Nat) : -b ≤ gt (tabL n f) g ∧ gt (tabL n f) g ≤ b := by
  by_cases e : g < n
  · rw [gt_tabL _ e]
    exact h g e
  · have : gt (tabL n f) g = 0 := getD_out (by rw [tabL_len]; omega)
    rw [this]
    omega
theorem prod_bd {x y : Int} (h0 : -5 ≤ x) (h1 : x ≤ 5) (h2 : 0 ≤ y) (h3 : y < 10 ^ 40) {k : Int} (h4 : 0 ≤ k) (h5 : k ≤ 6) : -(10 ^ 42) ≤ x * y + k ∧ x * y + k ≤ 10 ^ 42 := by
  have a : x * y ≤ 5 * y := Int.mul_le_mul_of_nonneg_right h1 h2
  have b : -5 * y ≤ x * y := Int.mul_le_mul_of_nonneg_right h0 h2
  omega
theorem cl_law_row (D : Df K mg "_law_row" s_law_row ["number", "hands"] f fd) (B : Bl mg) : Cl P w K mg base 1 "_law_row" ["number", "hands"] spRow := D.cl (by
  refine D.F.ok sc_law_row (fun vs H Q E h => ?_) (fun cdv A outer s H vs Q E hr h => ?_)
  · obtain ⟨n, h, rfl, _⟩ := h
    rfl
  · obtain ⟨n, h, rfl, hh, q⟩ := h
    refine ⟨_, PSs.nox (pss_cons (ps_setLc (i := 2) (own := [("k", 3)]) (g := gName 3) rfl sc_law_row.nd rfl rfl (sw_true rfl rfl rfl (by decide +kernel)) (pi_range1 (by rfl) B.range (pa_cons (pv 1) pa_nil)) (blkOk_by (own := [("k", 3)]) (N := ["number", "hands", "some", "k", "more"]) (sc := defScope s_law_row) (by decide +kernel))
    (fun _ _ _ _ _ => (pg_name (i := 3) sc_law_row.nd rfl (.inl rfl))) (fun _ _ _ _ _ => pts_nil)
    (fun _ _ _ _ _ => (pe_op op_sub (pe_op op_modP (pe_op op_fdivW (pv 0) (pe_ix (r := rIxL K) ix_list (pe_lst (pa_cons pe_int (pa_cons pe_int (pa_cons pe_int (pa_cons pe_int (pa_cons pe_int (pa_cons pe_int pa_nil))))))) (pv 3) (fun _ _ => rfl))) pe_int) pe_int)))
  (C8.pss_cut (ps_if (pt_cmpR op_eq (pe_op op_modP (pe_op op_fdivW (pv 0) pe_int) pe_int) pe_int (nomark _))
  (pss_one (ps_setLc (i := 2) (own := [("k", 3), ("more", 4)]) (g := gTup K 2 (gCons (gName 3) (gCons (gName 4) (gNil)))) rfl sc_law_row.nd rfl rfl (sw_true rfl rfl rfl (by decide +kernel)) (pi_enum (by rfl) B.enumerate (pa_cons (pv 2) pa_nil)) (blkOk_by (own := [("k", 3), ("more", 4)]) (N := ["number", "hands", "some", "k", "more"]) (sc := defScope s_law_row) (by decide +kernel))
    (fun _ _ _ _ _ => (pg_tup rfl (pgs_cons (pg_name (i := 3) sc_law_row.nd rfl (.inl rfl)) (pgs_cons (pg_name (i := 4) sc_law_row.nd rfl (.inl rfl)) pgs_nil)))) (fun _ _ _ _ _ => pts_nil)
    (fun _ _ _ _ _ => (pe_op op_add (pe_op op_mul (pv 4) (pe_op op_modP (pe_op op_fdivW (pv 0) pe_int) (pe_op op_pow pe_int pe_int))) (pv 3))))) pss_nil)
  (pss_one (ps_ret (pv 2))))), ?_⟩
    refine ⟨_, rfl, _, rfl, rng_lo, rng_hi (by omega), fun D1 nD => ?_⟩
    have rb : ∀ i, i < h → -5 ≤ rowF n i ∧ rowF n i ≤ 5 := fun i _ => by
      unfold rowF
      omega
    refine lc_rngY (n := h) (fun i => .int (rowF n i)) nD (by omega) (fun _ => rfl) ?_ ?_
    · intro i H2 R hi s2 r
      have w6 := wL_ok i (by omega)
      refine ⟨_, rfl, (by show 6 ≤ sizeLine; decide), fun p np => ?_⟩
      refine ⟨_, rfl, p, wL.map V.int, _, _, rfl, rfl, SqL.of upd_same, ints_atI (T := wL) (show i < 6 by omega), _, _, rfl, rfl, w6, _, _, rfl, rfl, by decide, _, _, rfl, rfl, ?_⟩
      exact r _ (same_new np)
    · intro H2 s2 e2
      rw [map_int] at e2
      refine ⟨fun σ H' => ∃ (p : Addr) (zs : List Int), σ = [some (.int n), some (.int (h : Int)), some (.ref p), none, none] ∧ Same H H' ∧ H p = none ∧ H' p = some (.lst (zs.map V.int)) ∧ zs.length = h ∧ ∀ g, -(10 ^ 42) ≤ gt zs g ∧ gt zs g ≤ 10 ^ 42, ?_, ?_⟩
      · refine ⟨_, rfl, _, _, rfl, rfl, ⟨by decide, by decide +kernel⟩, _, _, rfl, rfl, by decide, rfl, _, rfl, ite2 (fun _ => ?_) (fun _ => ?_)⟩
        · refine ⟨_, rfl, D1, _, rfl, SqL.of e2, fun D2 nD2 => ?_⟩
          refine lc_enum (fun i => .int (rowF n i * (n / 5314683 % 10 ^ 40) + (i : Int))) (SqL.of e2) nD2 (by rw [List.length_map, tabL_len]; omega) (fun _ _ => rfl) ?_ ?_
          · intro i x H3 R hx s3 r
            obtain ⟨hi, rfl⟩ := ints_get hx
            rw [tabL_len] at hi
            rw [gt_tabL _ hi]
            have := rb i hi
            refine ⟨_, rfl, _, rfl, _, _, rfl, rfl, ⟨by decide, by decide +kernel⟩, _, _, rfl, rfl, ⟨by decide, by decide, by decide⟩, _, _, rfl, rfl, by decide, _, _, rfl, rfl, .inl ⟨by omega, by omega⟩, _, rfl, _, _, rfl, rfl, ?_⟩
            exact r H3 (Same.refl _)
          · intro H3 s3 e3
            rw [List.length_map, tabL_len, map_int (fun i => rowF n i * (n / 5314683 % 10 ^ 40) + (i : Int))] at e3
            refine ⟨D2, _, rfl, s2.trans s3, s2.free nD2, e3, tabL_len _ _, gt_bd (by decide) fun g hg => ?_⟩
            have := rb g hg
            exact prod_bd this.1 this.2 (Int.emod_nonneg _ (by decide)) (Int.emod_lt_of_pos _ (by decide)) (by omega) (by omega)
        · refine ⟨D1, _, rfl, s2, nD, e2, tabL_len _ _, gt_bd (by decide) fun g hg => ?_⟩
          have := rb g hg
          omega
      · rintro σ H3 ⟨p, zs, rfl, s3, np, e3, lz, bz⟩
        exact ⟨_, rfl, q H3 p zs s3 np e3 lz bz⟩)
end
end Gc
namespace Gc
open PySem PySem.Spec PyProof.Rows L2
def SmB (D : Addr) (H H' : Hp) : Prop := ∀ b o, b ≠ D → H b = some o → H' b = some o
theorem SmB.refl {D : Addr} {H : Hp} : SmB D H H := fun _ _ _ e => e
theorem SmB.then {D : Addr} {H H1 H2 : Hp} (s : SmB D H H1) (t : Same H1 H2) : SmB D H H2 := fun b o n e => t b o (s b o n e)
theorem SmB.put {D : Addr} {H H1 : Hp} {o : HO} (s : SmB D H H1) : SmB D H (upd H1 D o) := fun b x n e => by
  rw [upd_ne n]
  exact s b x n e
theorem SmB.same {D : Addr} {G H H1 : Hp} (s : SmB D H H1) (t : Same G H) (n : G D = none) : Same G H1 := fun b o e => s b o (ne_of_none e n) (t b o e)
theorem cut_mem {xs : List V} {lo hi : Option Int} {i : Nat} {x : V} (h : (cutV xs lo hi)[i]? = some x) : x ∈ xs := by
  unfold cutV at h
  exact List.mem_of_mem_drop (List.mem_of_mem_take (List.mem_of_getElem? h))
theorem min_if {m c : Nat} : (if (m : Int) < (c : Int) then (m : Int) else (c : Int)) = ((min c m : Nat) : Int) := by
  split <;> omega
theorem self_tab {T : List Int} {n : Nat} (h : T.length = n) : T = tabL n (gt T) := ext_gt h fun _ _ => rfl
theorem gt_set {T : List Int} {j g : Nat} {v : Int} (h : j < T.length) : gt (T.set j v) g = if g = j then v else gt T g := by
  unfold gt
  rw [List.getD_eq_getElem?_getD, List.getElem?_set]
  by_cases e : j = g
  · rw [if_pos e, if_pos h, if_pos e.symm]
    rfl
  · rw [if_neg e, if_neg (fun z => e z.symm), List.getD_eq_getElem?_getD]
def Bd (T : List Int) : Prop := ∀ g, -(10 ^ 80) ≤ gt T g ∧ gt T g ≤ 10 ^ 80
def bdN (i : Nat) : Int := 6 * 10 ^ 42 + (i : Int) * 10 ^ 52
theorem bdN_succ (i : Nat) : bdN (i + 1) = bdN i + 10 ^ 52 := by
  unfold bdN
  rw [Int.natCast_succ, Int.add_mul]
  omega
theorem bdN_nn (i : Nat) : 0 ≤ bdN i := by
  unfold bdN
  have : 0 ≤ (i : Int) * 10 ^ 52 := Int.mul_nonneg (by omega) (by decide)
  omega
theorem bdN_le {i : Nat} (h : i ≤ 7) : bdN i ≤ 10 ^ 80 := by
  unfold bdN
  have : (i : Int) * 10 ^ 52 ≤ 7 * 10 ^ 52 := Int.mul_le_mul_of_nonneg_right (by omega) (by decide)
  omega
section
variable {P : Program} {w : World} {K : PySem.W.Frag} {mg : Str → Option Value} {base : Heap} {f : Addr} {fd : FuncData}
/-! ### the table with ties -/
abbrev s_law_tie_table : Stmt := top 39
theorem sc_law_tie_table : FnScope ["script", "hands", "numbers", "row", "table", "number", "part", "most", "weight", "group", "much"] ["script", "hands"] (defScope s_law_tie_table) := ⟨rfl, rfl, rfl, by decide +kernel, rfl, by decide +kernel, by decide +kernel⟩
def spTie (K : PySem.W.Frag) : Sp := fun vs H Q _ => ∃ (a : Addr) (ns : List Int) (h : Nat), vs = [.ref a, .int (h : Int)] ∧ SqL K H a (ns.map V.int) ∧ ns.length ≤ 63 ∧ 1 ≤ h ∧ h ≤ 6 ∧
  ∀ H' p (T : List Int), Same H H' → H p = none → H' p = some (.lst (T.map V.int)) → Tab h T → Bd T → Q (.ref p) H'
theorem cl_law_tie_table (D : Df K mg "_law_tie_table" s_law_tie_table ["script", "hands"] f fd) (B : Bl mg) (C_law_poured : Cl P w K mg base 2 "_law_poured" ["script", "many"] (spPoured K)) (C_law_row : Cl P w K mg base 1 "_law_row" ["number", "hands"] spRow)
    (C_law_given : Cl P w K mg base 1 "_law_given" ["row", "group"] (spGiven K)) (C_law_hands : Cl P w K mg base 1 "_law_hands" ["group"] spHands) : Cl P w K mg base 3 "_law_tie_table" ["script", "hands"] (spTie K) := D.cl (by
  refine D.F.ok sc_law_tie_table (fun vs H Q E h => ?_) (fun cdv A outer s H vs Q E hr h => ?_)
  · obtain ⟨a, ns, h, rfl, _⟩ := h
    rfl
  · obtain ⟨a, ns, h, rfl, hS, hl, h1, hh, q⟩ := h
    have h64 := pow_small hh
    have hpos := Nat.two_pow_pos h
    refine ⟨_, PSs.nox (pss_cons (ps_set (i := 2) sc_law_tie_table.nd rfl (.inl rfl) (pe_cl C_law_poured (hr.mono (by decide)) (by rfl) (pa_cons (pv 0) (pa_cons pe_int pa_nil))))
  (pss_cons (ps_set (i := 3) sc_law_tie_table.nd rfl (.inr rfl) (pe_cl C_law_row (hr.mono (by decide)) (by rfl) (pa_cons (pe_ix (r := rIxL K) ix_list (pv 2) pe_int (fun _ _ => rfl)) (pa_cons (pv 1) pa_nil))))
  (pss_cons (ps_setLc (i := 4) (own := [("group", 9)]) (g := gName 9) rfl sc_law_tie_table.nd rfl rfl (sw_true rfl rfl rfl (by decide +kernel)) (pi_range1 (by rfl) B.range (pa_cons (pe_op op_oneShlN pe_int (pv 1)) pa_nil)) (blkOk_by (own := [("group", 9)]) (N := ["script", "hands", "numbers", "row", "table", "number", "part", "most", "weight", "group", "much"]) (sc := defScope s_law_tie_table) (by decide +kernel))
    (fun _ _ _ _ _ => (pg_name (i := 9) sc_law_tie_table.nd rfl (.inl rfl))) (fun _ _ _ _ _ => pts_nil)
    (fun _ _ _ _ _ => (pe_cl C_law_given (hr.mono (by decide)) (by rfl) (pa_cons (pv 3) (pa_cons (pv 9) pa_nil)))))
  (pss_cons (ps_for PassesOwn.never rfl (pi_list (pe_slice sl_list (pv 2) po_none (po_some pe_int))) (pg_name (i := 5) sc_law_tie_table.nd rfl (.inl rfl))
  (pss_cons (ps_set (i := 6) sc_law_tie_table.nd rfl (.inl rfl) (pe_op op_modP (pv 5) (pe_op op_oneShlN pe_int (pv 1))))
  (pss_cons (ps_set (i := 7) sc_law_tie_table.nd rfl (.inl rfl) (pe_op op_add pe_int (pe_op op_modP (pe_op op_fdivW (pv 5) pe_int) pe_int)))
  (pss_cons (ps_set (i := 8) sc_law_tie_table.nd rfl (.inl rfl) (pe_op op_modP (pe_op op_fdivW (pv 5) pe_int) pe_int))
  (C8.pss_cut (ps_if (pt_cmpR op_eq (pe_op op_modP (pe_op op_fdivW (pv 5) pe_int) pe_int) pe_int (nomark _))
  (pss_one (ps_set (i := 8) sc_law_tie_table.nd rfl (.inl rfl) (pe_op op_modP (pe_op op_fdivW (pv 5) pe_int) (pe_op op_pow pe_int pe_int)))) pss_nil)
  (pss_one (ps_for PassesOwn.never rfl (pi_range1 (by rfl) B.range (pa_cons (pe_op op_oneShlN pe_int (pv 1)) pa_nil)) (pg_name (i := 9) sc_law_tie_table.nd rfl (.inl rfl))
  (pss_cons (ps_set (i := 10) sc_law_tie_table.nd rfl (.inl rfl) (pe_callB (call_min2 rfl) (by rfl) B.min boot_min (pa_cons (pe_callB (r := lenR K) call_lenK (by rfl) B.len PySem.boot_len (pa_cons (pe_cl C_law_hands (hr.mono (by decide)) (by rfl) (pa_cons (pe_op op_andNN (pv 9) (pv 6)) pa_nil)) pa_nil)) (pa_cons (pv 7) pa_nil))))
  (pss_one (ps_asg (pe_op op_add (pe_ix (r := rIxL K) ix_list (pv 4) (pv 9) (fun _ _ => rfl)) (pe_op op_mul (pv 8) (pv 10))) (pg_sub (pv 4) (pv 9) set_list)))))))))))
  (pss_one (ps_ret (pv 4))))))), ?_⟩
    refine ⟨_, rfl, a, ns, 7, rfl, hS, hl, by omega, by omega, fun H1 N1 zs s1 n1 e1 lz bz => ?_⟩
    refine ⟨_, rfl, N1, _, _, _, rfl, rfl, SqL.of e1, ints_atI (g := 6) (by omega), _, rfl, _, h, rfl, hh, fun H2 R1 rs s2 n2 e2 lr br => ?_⟩
    refine ⟨_, rfl, h, rfl, rfl, by omega, _, rfl, rng_lo, rng_hi (by omega), fun D1 nD => ?_⟩
    refine lc_rngY (n := 2 ^ h) (fun i => .int (giv rs i)) nD (by omega) (fun _ => rfl) ?_ ?_
    · intro i H3 R hi s3 r
      exact ⟨_, rfl, _, rfl, R1, rs, i, rfl, SqL.of (s3 _ _ e2), by omega, r⟩
    intro H3 s3 e3
    rw [map_int] at e3
    have s03 : Same H H3 := (s1.trans s2).trans s3
    have nHD : H D1 = none := (s1.trans s2).free nD
    have e13 : H3 N1 = some (.lst (zs.map V.int)) := s3 _ _ (s2 _ _ e1)
    refine ⟨_, rfl, 6, rfl, N1, _, rfl, SqL.of e13, fun p0 np0 => ⟨p0, rfl, ⟨_, SqL.of upd_same⟩, ?_⟩⟩
    have np0D : p0 ≠ D1 := fun z => by
      rw [z, e3] at np0
      cases np0
    have s04 : Same H (upd H3 p0 (.lst (cutV (zs.map V.int) none (some 6)))) := s03.trans (same_new np0)
    have e34 : (upd H3 p0 (.lst (cutV (zs.map V.int) none (some 6)))) D1 = some (.lst ((tabL (2 ^ h) (giv rs)).map V.int)) := same_new np0 _ _ e3
    have e04 : (upd H3 p0 (.lst (cutV (zs.map V.int) none (some 6)))) p0 = some (.lst (cutV (zs.map V.int) none (some 6))) := upd_same
    generalize upd H3 p0 (.lst (cutV (zs.map V.int) none (some 6))) = H4 at s04 e34 e04
    have cl : (cutV (zs.map V.int) none (some 6)).length ≤ 7 := by
      have := cutV_length (zs.map V.int) none (some 6)
      rw [List.length_map, lz] at this
      exact this
    refine for_list (K := K) (a := p0) (xs := cutV (zs.map V.int) none (some 6)) (fun i σ H' => ∃ (T : List Int) (v5 v6 v7 v8 v9 v10 : Option V), σ = [some (.ref a), some (.int (h : Int)), some (.ref N1), some (.ref R1), some (.ref D1), v5, v6, v7, v8, v9, v10] ∧
        SmB D1 H4 H' ∧ H' D1 = some (.lst (T.map V.int)) ∧ Tab h T ∧ ∀ g, -bdN i ≤ gt T g ∧ gt T g ≤ bdN i)
      ⟨_, none, none, none, none, none, none, rfl, SmB.refl, e34, tab_row h rs, gt_bd (bdN_nn 0) fun g _ => ?_⟩ (fun i σ H' _ ⟨_, _, _, _, _, _, _, _, sm, _⟩ => SqL.of (sm _ _ np0D e04)) ?_ ?_
    · exact giv_bd rs g (10 ^ 42) (by decide) br
    · rintro i x σ H5 hx ⟨T, v5, v6, v7, v8, v9, v10, rfl, s5, e5, t, bt5⟩
      have hi := (List.getElem?_eq_some_iff.mp hx).1
      obtain ⟨z, hz, rfl⟩ := List.mem_map.mp (cut_mem hx)
      obtain ⟨zn, rfl⟩ : ∃ zn : Nat, z = (zn : Int) := ⟨z.toNat, by have := (bz z hz).1; omega⟩
      have lT : T.length = 2 ^ h := t.len
      refine ⟨_, rfl, _, rfl, h, rfl, rfl, by omega, _, _, rfl, rfl, by omega, ?_⟩
      refine ⟨_, rfl, _, _, rfl, rfl, ⟨by decide, by decide +kernel⟩, _, _, rfl, rfl, by decide, _, _, rfl, rfl, ?_⟩
      refine ⟨_, rfl, _, _, rfl, rfl, ⟨by decide, by decide +kernel⟩, _, _, rfl, rfl, by decide, ?_⟩
      have e6 : (zn : Int) % ((2 ^ h : Nat) : Int) = ((zn % 2 ^ h : Nat) : Int) := (Int.natCast_emod zn (2 ^ h)).symm
      have e7 : 1 + (zn : Int) / 64 % 3 = ((1 + zn / 64 % 3 : Nat) : Int) := by omega
      refine ⟨fun σ' H' => ∃ (wt : Int), σ' = [some (.ref a), some (.int (h : Int)), some (.ref N1), some (.ref R1), some (.ref D1), some (.int (zn : Int)), some (.int ((zn % 2 ^ h : Nat) : Int)), some (.int ((1 + zn / 64 % 3 : Nat) : Int)), some (.int wt), v9, v10] ∧
        H' = H5 ∧ 0 ≤ wt ∧ wt ≤ 10 ^ 50, ?_, ?_⟩
      · refine ⟨_, rfl, _, _, rfl, rfl, ⟨by decide, by decide +kernel⟩, _, _, rfl, rfl, by decide, rfl, _, rfl, ite2 (fun _ => ?_) (fun _ => ?_)⟩
        · refine ⟨_, rfl, _, _, rfl, rfl, ⟨by decide, by decide +kernel⟩, _, _, rfl, rfl, ⟨by decide, by decide, by decide⟩, _, _, rfl, rfl, by decide, ?_⟩
          refine ⟨(zn : Int) / 3840 % 10 ^ Int.toNat 50, ?_, rfl, Int.emod_nonneg _ (by decide), Int.le_of_lt (Int.emod_lt_of_pos _ (by decide))⟩
          rw [← e6, ← e7]
          rfl
        · refine ⟨(zn : Int) / 192 % 4, ?_, rfl, by omega, by omega⟩
          rw [← e6, ← e7]
          rfl
      · rintro σ6 H6 ⟨wt, rfl, rfl, w0, w1⟩
        generalize zn % 2 ^ h = part
        obtain ⟨most, hmost⟩ : ∃ most, 1 + zn / 64 % 3 = most := ⟨_, rfl⟩
        have m3 : most ≤ 3 := by omega
        rw [hmost]
        refine ⟨_, rfl, h, rfl, rfl, by omega, _, rfl, rng_lo, rng_hi (by omega), ?_⟩
        refine for_rngJ (n := 2 ^ h) rfl (fun j σ H' => ∃ (L : List Int) (v9 v10 : Option V), σ = [some (.ref a), some (.int (h : Int)), some (.ref N1), some (.ref R1), some (.ref D1), some (.int (zn : Int)), some (.int (part : Int)), some (.int (most : Int)), some (.int wt), v9, v10] ∧
            SmB D1 H4 H' ∧ H' D1 = some (.lst (L.map V.int)) ∧ L.length = 2 ^ h ∧ ∀ g, g < 2 ^ h → gt L g = if g < j then capF T wt part most g else gt T g)
          ⟨T, _, _, rfl, s5, e5, lT, fun g _ => by rw [if_neg (by omega)]⟩ ?_ ?_
        · rintro j σ H7 hj ⟨L, u9, u10, rfl, s7, e7', lL, gL⟩
          refine ⟨_, rfl, _, rfl, j, part, rfl, rfl, _, rfl, fun H8 q8 s8 n8 e8 => ⟨q8, _, rfl, .inl (SqL.of e8), _, rfl, _, _, rfl, ?_⟩⟩
          rw [min_if, List.length_map]
          have ec : min (hin (j &&& part)).length most = cap part most j := rfl
          rw [ec]
          have c3 := cap_le part most j
          have e78 := s8 _ _ e7'
          refine ⟨_, rfl, _, rfl, D1, _, _, _, rfl, rfl, SqL.of e78, ints_atI (show j < L.length by omega), _, rfl, _, rfl, _, _, rfl, rfl, .inr ⟨by omega, by omega⟩, _, _, rfl, rfl, ?_⟩
          refine ⟨_, rfl, _, rfl, D1, _, _, j, rfl, rfl, e78, ixN_nat (by rw [List.length_map]; omega), ?_⟩
          rw [map_set]
          refine ⟨_, _, _, rfl, (s7.then s8).put, upd_same, by rw [List.length_set, lL], fun g hg => ?_⟩
          rw [gt_set (by omega)]
          by_cases eg : g = j
          · rw [if_pos eg, if_pos (by omega), eg, gL j hj, if_neg (by omega)]
            rfl
          · rw [if_neg eg, gL g hg]
            by_cases lt : g < j
            · rw [if_pos lt, if_pos (by omega)]
            · rw [if_neg lt, if_neg (by omega)]
        · rintro σ H7 ⟨L, u9, u10, rfl, s7, e7', lL, gL⟩
          have eL : L = tabL (2 ^ h) (capF T wt part most) := ext_gt lL fun g hg => by rw [gL g hg, if_pos hg]
          subst eL
          refine ⟨_, _, _, _, _, _, _, rfl, s7, e7', tab_cap hh t w0 part most, gt_bd (bdN_nn _) fun g _ => ?_⟩
          have b := bt5 g
          have c := mul_cap_bd w0 w1 (cap_le part most g)
          have c2 : (10 : Int) ^ 50 * (most : Int) ≤ 10 ^ 50 * 3 := Int.mul_le_mul_of_nonneg_left (by omega) (by decide)
          rw [bdN_succ]
          unfold capF
          omega
    · rintro σ H5 ⟨T, v5, v6, v7, v8, v9, v10, rfl, s5, e5, t, bt5⟩
      refine ⟨_, rfl, q H5 D1 T (s5.same s04 nHD) nHD e5 t fun g => ?_⟩
      have b := bt5 g
      have l := bdN_le cl
      omega)
/-! ### the table with noise -/
abbrev s_law_noise_table : Stmt := top 40
theorem sc_law_noise_table : FnScope ["script", "hands", "wide", "numbers", "table", "group", "many"] ["script", "hands", "wide"] (defScope s_law_noise_table) := ⟨rfl, rfl, rfl, by decide +kernel, rfl, by decide +kernel, by decide +kernel⟩
def spNoise (K : PySem.W.Frag) : Sp := fun vs H Q _ => ∃ (a : Addr) (ns : List Int) (h : Nat) (wd : Int), vs = [.ref a, .int (h : Int), .int wd] ∧ SqL K H a (ns.map V.int) ∧ ns.length ≤ 63 ∧ 1 ≤ h ∧ h ≤ 6 ∧ 0 < wd ∧ wd ≤ 10 ^ 59 ∧
  ∀ H' p (T : List Int), Same H H' → H p = none → H' p = some (.lst (T.map V.int)) → Tab h T → Bd T → Q (.ref p) H'
theorem noise_bd {wd r : Int} {c : Nat} (h0 : 0 < wd) (h1 : wd ≤ 10 ^ 59) (r0 : 0 ≤ r) (r1 : r < wd) (hc : c ≤ 6) : -(10 ^ 80) ≤ r - wd * (c : Int) * (c : Int) ∧ r - wd * (c : Int) * (c : Int) ≤ 10 ^ 80 := by
  have a1 : 0 ≤ wd * (c : Int) := Int.mul_nonneg (by omega) (by omega)
  have a2 : 0 ≤ wd * (c : Int) * (c : Int) := Int.mul_nonneg a1 (by omega)
  have b1 : wd * (c : Int) ≤ wd * 6 := Int.mul_le_mul_of_nonneg_left (by omega) (by omega)
  have b2 : wd * (c : Int) * (c : Int) ≤ wd * 6 * 6 := Int.mul_le_mul b1 (by omega) (by omega) (by omega)
  omega
theorem cl_law_noise_table (D : Df K mg "_law_noise_table" s_law_noise_table ["script", "hands", "wide"] f fd) (B : Bl mg) (C_law_poured : Cl P w K mg base 2 "_law_poured" ["script", "many"] (spPoured K))
    (C_law_hands : Cl P w K mg base 1 "_law_hands" ["group"] spHands) : Cl P w K mg base 3 "_law_noise_table" ["script", "hands", "wide"] (spNoise K) := D.cl (by
  refine D.F.ok sc_law_noise_table (fun vs H Q E h => ?_) (fun cdv A outer s H vs Q E hr h => ?_)
  · obtain ⟨a, ns, h, wd, rfl, _⟩ := h
    rfl
  · obtain ⟨a, ns, h, wd, rfl, hS, hl, h1, hh, w0, w1, q⟩ := h
    have h64 := pow_small hh
    have h2 : 2 ≤ 2 ^ h := Nat.pow_le_pow_right (n := 2) (i := 1) (by omega) h1
    refine ⟨_, PSs.nox (pss_cons (ps_set (i := 3) sc_law_noise_table.nd rfl (.inl rfl) (pe_cl C_law_poured (hr.mono (by decide)) (by rfl) (pa_cons (pv 0) (pa_cons (pe_op op_sub (pe_op op_oneShlN pe_int (pv 1)) pe_int) pa_nil))))
  (pss_cons (ps_set (i := 4) sc_law_noise_table.nd rfl (.inl rfl) (pe_lst (pa_cons pe_int pa_nil)))
  (pss_cons (ps_for PassesOwn.never rfl (pi_range2 (by rfl) B.range (pa_cons pe_int (pa_cons (pe_op op_oneShlN pe_int (pv 1)) pa_nil))) (pg_name (i := 5) sc_law_noise_table.nd rfl (.inl rfl))
  (pss_cons (ps_set (i := 6) sc_law_noise_table.nd rfl (.inl rfl) (pe_callB (r := lenR K) call_lenK (by rfl) B.len PySem.boot_len (pa_cons (pe_cl C_law_hands (hr.mono (by decide)) (by rfl) (pa_cons (pv 5) pa_nil)) pa_nil)))
  (pss_one (ps_expr (pe_bm PySem.F.plainAttrs_list PySem.F.slot_list_append PySem.F.type_list_append mt_append (pv 4) (pa_cons (pe_op op_sub (pe_op op_modP (pe_ix (r := rIxL K) ix_list (pv 3) (pe_op op_sub (pv 5) pe_int) (fun _ _ => rfl)) (pv 2)) (pe_op op_mul (pe_op op_mul (pv 2) (pv 6)) (pv 6))) pa_nil))))))
  (pss_one (ps_ret (pv 4)))))), ?_⟩
    refine ⟨_, rfl, _, rfl, h, rfl, rfl, by omega, _, _, rfl, rfl, a, ns, 2 ^ h - 1, ?_, hS, hl, by omega, by omega, fun H1 N1 zs s1 n1 e1 lz bz => ?_⟩
    · show [V.ref a, V.int (((2 ^ h : Nat) : Int) - 1)] = _
      rw [show ((2 ^ h : Nat) : Int) - 1 = ((2 ^ h - 1 : Nat) : Int) by omega]
    refine ⟨(by show 1 ≤ sizeLine; decide), fun D1 nD => ?_⟩
    refine ⟨_, rfl, h, rfl, rfl, by omega, 1, _, rfl, ⟨by decide, by decide, rng_lo, rng_hi (by omega)⟩, ?_⟩
    refine for_rngA (n := 2 ^ h - 1) (by omega) (fun i σ H' => ∃ (T : List Int) (v5 v6 : Option V), σ = [some (.ref a), some (.int (h : Int)), some (.int wd), some (.ref N1), some (.ref D1), v5, v6] ∧ Same H1 H' ∧ H' D1 = some (.lst (T.map V.int)) ∧ T.length = i + 1 ∧ gt T 0 = 0 ∧
        ∀ g, g < i + 1 → ∃ r, 0 ≤ r ∧ r < wd ∧ gt T g = r - wd * (pc g : Nat) * (pc g : Nat))
      ⟨[0], none, none, rfl, same_new nD, upd_same, rfl, rfl, fun g hg => ⟨0, Int.le_refl _, w0, ?_⟩⟩ ?_ ?_
    · have : g = 0 := by omega
      subst this
      show (0 : Int) = 0 - wd * 0 * 0
      rw [Int.mul_zero]
      rfl
    · rintro i σ H2 hi ⟨T, v5, v6, rfl, s2, e2, lT, z0, gT⟩
      have ei : 1 + (i : Int) = ((i + 1 : Nat) : Int) := by omega
      rw [ei]
      refine ⟨_, rfl, i + 1, rfl, fun H3 q3 s3 n3 e3 => ⟨q3, _, rfl, .inl (SqL.of e3), ?_⟩⟩
      rw [List.length_map]
      have c6 := pc_6 (i + 1) (by omega)
      have epc : (hin (i + 1)).length = pc (i + 1) := rfl
      rw [epc]
      have e23 := s3 _ _ e2
      refine ⟨_, rfl, .inl ⟨rfl, _, SqL.of e23⟩, ?_⟩
      refine ⟨_, rfl, _, rfl, _, _, rfl, rfl, N1, _, _, _, rfl, rfl, SqL.of (s3 _ _ (s2 _ _ e1)), at_of (j := i) (by omega) (ints_at (by omega)), _, rfl, _, _, rfl, rfl, w0, ?_⟩
      refine ⟨_, rfl, _, rfl, _, _, rfl, rfl, .inr ⟨by omega, by omega⟩, _, rfl, _, _, rfl, rfl, .inr ⟨by omega, by omega⟩, _, _, rfl, rfl, ?_⟩
      refine ⟨D1, _, _, rfl, rfl, e23, ?_, ?_⟩
      · rw [List.length_map]
        exact small1000 (by omega)
      · refine ⟨T ++ [gt zs i % wd - wd * (pc (i + 1) : Nat) * (pc (i + 1) : Nat)], _, _, rfl, same_put (s2.trans s3) nD, ?_, ?_, ?_, fun g hg => ?_⟩
        · rw [upd_same, List.map_append]
          rfl
        · rw [List.length_append, lT]
          rfl
        · rw [gt_snoc (by omega), z0]
        · by_cases lt : g < i + 1
          · rw [gt_snoc (by omega)]
            exact gT g lt
          · have : g = T.length := by omega
            subst this
            rw [gt_last, lT]
            exact ⟨_, Int.emod_nonneg _ (by omega), Int.emod_lt_of_pos _ w0, rfl⟩
    · rintro σ H2 ⟨T, v5, v6, rfl, s2, e2, lT, z0, gT⟩
      have e : 2 ^ h - 1 + 1 = 2 ^ h := by omega
      rw [e] at lT gT
      refine ⟨_, rfl, q H2 D1 T (s1.trans s2) (s1.free nD) e2 (tab_noise hh lT z0 w0 gT) fun g => ?_⟩
      by_cases hg : g < 2 ^ h
      · obtain ⟨r, r0, r1, eg⟩ := gT g hg
        rw [eg]
        exact noise_bd w0 w1 r0 r1 (pc_6 g (by omega))
      · have : gt T g = 0 := getD_out (by omega)
        rw [this]
        decide)
/-! ### the falling table -/
abbrev s_law_falling : Stmt := top 41
theorem sc_law_falling : FnScope ["script", "hands", "cell", "table", "cost"] ["script", "hands", "cell"] (defScope s_law_falling) := ⟨rfl, rfl, rfl, by decide +kernel, rfl, by decide +kernel, by decide +kernel⟩
def wideL : List Int := [3, 10 ^ Int.toNat 9, 10 ^ Int.toNat 59]
theorem wideL_ok : ∀ j, j < 3 → 0 < gt wideL j ∧ gt wideL j ≤ 10 ^ 59 := by decide +kernel
def bigN : Int := (10 ^ Int.toNat 50) ^ Int.toNat 2
theorem bigN_nn : 0 ≤ bigN := by decide +kernel
theorem bigN_lt : bigN.natAbs < 2 ^ 400 := by decide +kernel
theorem bd_lt {x : Int} (h : -(10 ^ 80) ≤ x ∧ x ≤ 10 ^ 80) : x.natAbs < 2 ^ 300 := by
  have : (10 : Nat) ^ 80 < 2 ^ 300 := by decide +kernel
  omega
def spFalling (K : PySem.W.Frag) : Sp := fun vs H Q _ => ∃ (a : Addr) (ns : List Int) (h : Nat) (c : Int), vs = [.ref a, .int (h : Int), .int c] ∧ SqL K H a (ns.map V.int) ∧ ns.length ≤ 63 ∧ 1 ≤ h ∧ h ≤ 6 ∧
  ∀ H' p (T : List Int), Same H H' → H p = none → H' p = some (.lst (T.map V.int)) → Tab h T → Q (.ref p) H'
theorem cl_law_falling (D : Df K mg "_law_falling" s_law_falling ["script", "hands", "cell"] f fd) (B : Bl mg) (C_law_tie_table : Cl P w K mg base 3 "_law_tie_table" ["script", "hands"] (spTie K))
    (C_law_noise_table : Cl P w K mg base 3 "_law_noise_table" ["script", "hands", "wide"] (spNoise K)) : Cl P w K mg base 4 "_law_falling" ["script", "hands", "cell"] (spFalling K) := D.cl (by
  refine D.F.ok sc_law_falling (fun vs H Q E h => ?_) (fun cdv A outer s H vs Q E hr h => ?_)
  · obtain ⟨a, ns, h, c, rfl, _⟩ := h
    rfl
  · obtain ⟨a, ns, h, c, rfl, hS, hl, h1, hh, q⟩ := h
    have h64 := pow_small hh
    refine ⟨_, PSs.nox (pss_cons (ps_set (i := 3) sc_law_falling.nd rfl (.inl rfl) (pe_cl C_law_tie_table (hr.mono (by decide)) (by rfl) (pa_cons (pv 0) (pa_cons (pv 1) pa_nil))))
  (C8.pss_cut (ps_if (pt_cmpR op_eq (pe_op op_modP (pv 2) pe_int) pe_int (nomark _))
  (pss_one (ps_set (i := 3) sc_law_falling.nd rfl (.inl rfl) (pe_cl C_law_noise_table (hr.mono (by decide)) (by rfl) (pa_cons (pv 0) (pa_cons (pv 1) (pa_cons (pe_ix (r := rIxL K) ix_list (pe_lst (pa_cons pe_int (pa_cons (pe_op op_pow pe_int pe_int) (pa_cons (pe_op op_pow pe_int pe_int) pa_nil)))) (pe_op op_modP (pe_op op_fdivW (pv 2) pe_int) pe_int) (fun _ _ => rfl)) pa_nil)))))) pss_nil)
  (C8.pss_cut (ps_if (pt_cmpR op_eq (pe_op op_modP (pe_op op_fdivW (pv 2) pe_int) pe_int) pe_int (nomark _))
  (pss_one (ps_setLc (i := 3) (own := [("cost", 4)]) (g := gName 4) rfl sc_law_falling.nd rfl rfl (sw_true rfl rfl rfl (by decide +kernel)) (pi_list (pv 3)) (blkOk_by (own := [("cost", 4)]) (N := ["script", "hands", "cell", "table", "cost"]) (sc := defScope s_law_falling) (by decide +kernel))
    (fun _ _ _ _ _ => (pg_name (i := 4) sc_law_falling.nd rfl (.inl rfl))) (fun _ _ _ _ _ => pts_nil)
    (fun _ _ _ _ _ => (pe_op op_mulX (pv 4) (pe_op op_powX (pe_op op_pow pe_int pe_int) pe_int))))) pss_nil)
  (pss_one (ps_ret (pv 3)))))), ?_⟩
    refine ⟨_, rfl, _, rfl, a, ns, h, rfl, hS, hl, h1, hh, fun H1 p1 T1 s1 n1 e1 t1 b1 => ?_⟩
    refine ⟨fun σ H' => ∃ (p : Addr) (T : List Int), σ = [some (.ref a), some (.int (h : Int)), some (.int c), some (.ref p), none] ∧ Same H H' ∧ H p = none ∧ H' p = some (.lst (T.map V.int)) ∧ Tab h T ∧ Bd T, ?_, ?_⟩
    · refine ⟨_, rfl, _, _, rfl, rfl, by decide, rfl, _, rfl, ite2 (fun _ => ?_) (fun _ => ?_)⟩
      · refine ⟨_, rfl, _, rfl, ?_⟩
        refine ⟨_, _, rfl, rfl, ⟨by decide, by decide, by decide⟩, _, _, rfl, rfl, ⟨by decide, by decide, by decide⟩, (by show 3 ≤ sizeLine; decide), fun p np => ?_⟩
        have m0 : 0 ≤ c / 2 % 3 := Int.emod_nonneg _ (by decide)
        have m1 : c / 2 % 3 < 3 := Int.emod_lt_of_pos _ (by decide)
        obtain ⟨j, ej⟩ : ∃ j : Nat, c / 2 % 3 = (j : Int) := ⟨(c / 2 % 3).toNat, by omega⟩
        have hj : j < 3 := by omega
        obtain ⟨w0, w1⟩ := wideL_ok j hj
        have sp := same_new (o := .lst (wideL.map V.int)) np
        refine ⟨_, rfl, _, _, rfl, rfl, ⟨by decide, by decide +kernel⟩, _, _, rfl, rfl, by decide, p, wideL.map V.int, _, _, rfl, rfl, SqL.of upd_same, at_of ej (ints_at (T := wideL) hj), ?_⟩
        refine ⟨a, ns, h, _, rfl, (s1.trans sp).seq hS, hl, h1, hh, w0, w1, fun H2 p2 T2 s2 n2 e2 t2 b2 => ?_⟩
        exact ⟨p2, T2, rfl, (s1.trans sp).trans s2, (s1.trans sp).free n2, e2, t2, b2⟩
      · exact ⟨p1, T1, rfl, s1, n1, e1, t1, b1⟩
    · rintro σ H2 ⟨p, T, rfl, s2, np, e2, t, bT⟩
      refine ⟨fun σ H' => ∃ (p : Addr) (T : List Int), σ = [some (.ref a), some (.int (h : Int)), some (.int c), some (.ref p), none] ∧ Same H H' ∧ H p = none ∧ H' p = some (.lst (T.map V.int)) ∧ Tab h T, ?_, ?_⟩
      · refine ⟨_, rfl, _, _, rfl, rfl, ⟨by decide, by decide +kernel⟩, _, _, rfl, rfl, by decide, rfl, _, rfl, ite2 (fun _ => ?_) (fun _ => ?_)⟩
        · refine ⟨_, rfl, p, rfl, ⟨_, SqL.of e2⟩, fun D2 nD2 => ?_⟩
          refine lc_lst (fun v => match v with
            | .int i => .int (i * bigN)
            | _ => .non) (SqL.of e2) nD2 (by rw [List.length_map, t.len]; omega) (fun _ => rfl) ?_ ?_
          · intro i x H3 R hx s3 r
            obtain ⟨hi, rfl⟩ := ints_get hx
            refine ⟨_, rfl, _, _, rfl, rfl, ⟨by decide, by decide, by decide⟩, _, _, rfl, rfl, ⟨by decide, by decide +kernel⟩, _, _, rfl, rfl, mulx_ok (bd_lt (bT i)) bigN_lt (by decide), ?_⟩
            exact r H3 (Same.refl _)
          · intro H3 s3 e3
            refine ⟨D2, tabL (2 ^ h) (fun g => gt T g * bigN), rfl, s2.trans s3, s2.free nD2, ?_, tab_scale t bigN_nn⟩
            rw [e3]
            congr 1
            congr 1
            rw [List.map_map]
            unfold tabL
            rw [List.map_map]
            have eT := self_tab t.len
            unfold tabL at eT
            rw [eT, List.map_map]
            refine List.map_congr_left fun g hg => ?_
            show V.int (gt T g * bigN) = V.int (gt ((List.range (2 ^ h)).map (gt T)) g * bigN)
            rw [← eT]
        · exact ⟨p, T, rfl, s2, np, e2, t⟩
      · rintro σ H3 ⟨p, T, rfl, s3, np, e3, t⟩
        exact ⟨_, rfl, q H3 p T s3 np e3 t⟩)
end
end Gc
namespace Gc
open PySem PySem.Spec PyProof.Rows L2
theorem atI_neg {T : List Int} {d : Nat} {z : Int} (e : z = -(d : Int)) (h0 : 1 ≤ d) (h1 : d ≤ T.length) : atI (T.map V.int) z = some (.int (gt T (T.length - d))) := by
  unfold atI ixN
  rw [List.length_map, if_neg (by omega), if_pos (by omega)]
  show (T.map V.int)[(z + (T.length : Int)).toNat]? = _
  rw [show (z + (T.length : Int)).toNat = T.length - d by omega]
  exact ints_at (by omega)
section
variable {P : Program} {w : World} {K : PySem.W.Frag} {mg : Str → Option Value} {base : Heap} {f : Addr} {fd : FuncData}
/-! ### the law's looks -/
abbrev s_law_numbers : Stmt := top 42
theorem sc_law_numbers : FnScope ["found", "due", "k"] ["found", "due"] (defScope s_law_numbers) := ⟨rfl, rfl, rfl, by decide +kernel, rfl, by decide +kernel, by decide +kernel⟩
def spNumbers (K : PySem.W.Frag) : Sp := fun vs H Q _ => ∃ (a : Addr) (ns : List Int), vs = [.ref a, .ref a] ∧ H a = some (.lst (ns.map V.int)) ∧ ns.length ≤ 6 ∧ Q (.bl true) H
theorem cl_law_numbers (D : Df K mg "_law_numbers" s_law_numbers ["found", "due"] f fd) (B : Bl mg) (C_law_whole : Cl P w K mg base 1 "_law_whole" ["found"] spWhole) : Cl P w K mg base 2 "_law_numbers" ["found", "due"] (spNumbers K) := D.cl (by
  refine D.F.ok sc_law_numbers (fun vs H Q E h => ?_) (fun cdv A outer s H vs Q E hr h => ?_)
  · obtain ⟨a, ns, rfl, _⟩ := h
    rfl
  · obtain ⟨a, ns, rfl, hS, hl, q⟩ := h
    refine ⟨_, PSs.nox (pss_cons (ps_if (PW.pt (pw_or (pt_not (pt_val (pe_callB call_isi (by rfl) B.isinstance b_isinstance (pa_cons (pv 0) (pa_cons (pe_bltn (v := .ty "list") (by rfl) B.list b_list rfl) pa_nil))))) (pw_or1 (pt_cmpR op_ne (pe_callB (r := lenR K) call_lenK (by rfl) B.len PySem.boot_len (pa_cons (pv 0) pa_nil)) (pe_callB (r := lenR K) call_lenK (by rfl) B.len PySem.boot_len (pa_cons (pv 1) pa_nil)) (nomark _)))))
  (pss_one (ps_ret pe_bl)) pss_nil)
  (pss_cons (ps_for PassesOwn.never rfl (pi_range1 (by rfl) B.range (pa_cons (pe_callB (r := lenR K) call_lenK (by rfl) B.len PySem.boot_len (pa_cons (pv 1) pa_nil)) pa_nil)) (pg_name (i := 2) sc_law_numbers.nd rfl (.inl rfl))
  (pss_one (ps_if (PW.pt (pw_or (pt_not (pt_val (pe_cl C_law_whole (hr.mono (by decide)) (by rfl) (pa_cons (pe_ix (r := rIxL K) ix_list (pv 0) (pv 2) (fun _ _ => rfl)) pa_nil)))) (pw_or1 (pt_cmpR op_ne (pe_ix (r := rIxL K) ix_list (pv 0) (pv 2) (fun _ _ => rfl)) (pe_ix (r := rIxL K) ix_list (pv 1) (pv 2) (fun _ _ => rfl)) (nomark _)))))
  (pss_one (ps_ret pe_bl)) pss_nil)))
  (pss_one (ps_ret pe_bl)))), ?_⟩
    refine ⟨_, rfl, _, _, _, _, true, rfl, .ty "list", .base (.lst hS), kit_ty (by decide +kernel), true, rfl, iteF ?_⟩
    refine ⟨_, rfl, a, _, rfl, .inl (SqL.of hS), _, rfl, a, _, rfl, .inl (SqL.of hS), rfl, _, rfl, iteNS rfl ?_⟩
    refine ⟨_, rfl, a, _, rfl, .inl (SqL.of hS), _, rfl, rng_lo, rng_hi (by rw [List.length_map]; omega), ?_⟩
    refine for_rngJ (n := ns.length) (by rw [List.length_map]) (fun i σ H' => ∃ v2, σ = [some (.ref a), some (.ref a), v2] ∧ H' = H) ⟨none, rfl, rfl⟩ ?_ ?_
    · rintro i σ H1 hi ⟨v2, rfl, rfl⟩
      refine ⟨_, rfl, _, rfl, a, _, _, _, rfl, rfl, SqL.of hS, ints_atI hi, _, rfl, true, rfl, iteF ?_⟩
      refine ⟨_, rfl, _, rfl, a, _, _, _, rfl, rfl, SqL.of hS, ints_atI hi, _, rfl, _, rfl, a, _, _, _, rfl, rfl, SqL.of hS, ints_atI hi, rfl, _, rfl, iteNS rfl ?_⟩
      exact ⟨_, rfl, rfl⟩
    · rintro σ H1 ⟨v2, rfl, rfl⟩
      exact q)
abbrev s_law_is_under : Stmt := top 43
theorem sc_law_is_under : FnScope ["table", "row", "group"] ["table", "row"] (defScope s_law_is_under) := ⟨rfl, rfl, rfl, by decide +kernel, rfl, by decide +kernel, by decide +kernel⟩
def spIsUnder (K : PySem.W.Frag) : Sp := fun vs H Q _ => ∃ (a b : Addr) (T rs : List Int) (h : Nat), vs = [.ref a, .ref b] ∧ SqL K H a (T.map V.int) ∧ SqL K H b (rs.map V.int) ∧ T.length = 2 ^ h ∧ h ≤ 6 ∧ rs.length ≤ 6 ∧ Under h T rs ∧ ∀ H', Same H H' → Q (.bl true) H'
theorem no_one {n : Nat} {b : Nat → Bool} {f : Nat → V} (h : ∀ g, g < n → b g = false) : ((List.range n).filter b).map f = [] := by
  have e : (List.range n).filter b = [] := List.filter_eq_nil_iff.mpr fun g hg => by
    rw [h g (List.mem_range.mp hg)]
    exact Bool.false_ne_true
  rw [e]
  rfl
theorem cl_law_is_under (D : Df K mg "_law_is_under" s_law_is_under ["table", "row"] f fd) (B : Bl mg) (C_law_given : Cl P w K mg base 1 "_law_given" ["row", "group"] (spGiven K)) : Cl P w K mg base 2 "_law_is_under" ["table", "row"] (spIsUnder K) := D.cl (by
  refine D.F.ok sc_law_is_under (fun vs H Q E h => ?_) (fun cdv A outer s H vs Q E hr h => ?_)
  · obtain ⟨a, b, T, rs, h, rfl, _⟩ := h
    rfl
  · obtain ⟨a, b, T, rs, h, rfl, hA, hB, lA, hh, lr, u, q⟩ := h
    have h64 := pow_small hh
    have hl : (T.map V.int).length = 2 ^ h := by rw [List.length_map, lA]
    refine ⟨_, PSs.nox (pss_one (ps_ret (pe_cmpR (op_eqD hr.units) (pe_lc (own := [("group", 2)]) (g := gName 2) rfl sc_law_is_under.nd (pi_range1 (by rfl) B.range (pa_cons (pe_callB (r := lenR K) call_lenK (by rfl) B.len PySem.boot_len (pa_cons (pv 0) pa_nil)) pa_nil)) (blkOk_by (own := [("group", 2)]) (N := ["table", "row", "group"]) (sc := defScope s_law_is_under) (by decide +kernel))
    (fun _ _ _ _ _ => (pg_name (i := 2) sc_law_is_under.nd rfl (.inl rfl))) (fun _ _ _ _ _ => (pts_one (pt_cmpR op_gt (pe_cl C_law_given (hr.mono (by decide)) (by rfl) (pa_cons (pv 1) (pa_cons (pv 2) pa_nil))) (pe_ix (r := rIxL K) ix_list (pv 0) (pv 2) (fun _ _ => rfl)) (nomark _))))
    (fun _ _ _ _ _ => (pv 2))) (pe_lst pa_nil) (nomark _)))), ?_⟩
    refine ⟨_, rfl, a, _, rfl, .inl hA, _, rfl, rng_lo, rng_hi (by omega), fun D1 nD => ?_⟩
    refine lc_rngJ (n := 2 ^ h) (congrArg _ hl) (fun g => decide (gt T g < giv rs g)) (fun g => .int (g : Int)) nD (by omega) (fun _ => rfl) ?_ ?_ ?_
    · intro g H2 R hg s2 r
      refine ⟨_, rfl, _, rfl, b, rs, g, rfl, s2.seq hB, lr, fun H3 s3 => ?_⟩
      refine ⟨_, rfl, _, rfl, a, _, _, _, rfl, rfl, (s2.trans s3).seq hA, ints_atI (by omega), _, _, rfl, rfl, _, rfl, ?_⟩
      exact r H3 s3
    · intro g H2 R hg hb s2 r
      exact ⟨_, rfl, r H2 (Same.refl _)⟩
    · intro H2 s2 e2
      rw [no_one fun g hg => decide_eq_false (by have := u g hg; omega)] at e2
      refine ⟨Nat.zero_le _, fun p np => ?_⟩
      have e2' := same_new (o := .lst []) np _ _ e2
      refine ⟨.list [], .list [], .lst (SqL.of e2') .nil, .lst (SqL.of upd_same) .nil, rfl, rfl, ?_⟩
      exact q _ (s2.trans (same_new np)))
abbrev s_law_bound_row : Stmt := top 44
theorem sc_law_bound_row : FnScope ["script", "table", "cell", "numbers", "row", "k", "turn", "near", "last", "far"] ["script", "table", "cell"] (defScope s_law_bound_row) := ⟨rfl, rfl, rfl, by decide +kernel, rfl, by decide +kernel, by decide +kernel⟩
def spBound (K : PySem.W.Frag) : Sp := fun vs H Q _ => ∃ (a b : Addr) (ns T : List Int) (h : Nat) (c : Int), vs = [.ref a, .ref b, .int c] ∧ SqL K H a (ns.map V.int) ∧ ns.length ≤ 63 ∧ SqL K H b (T.map V.int) ∧ T.length = 2 ^ h ∧ 1 ≤ h ∧ h ≤ 6 ∧
  ∀ H' p (rs : List Int), Same H H' → H p = none → H' p = some (.lst (rs.map V.int)) → rs.length = h → Q (.ref p) H'
theorem app_at {H : Hp} {D : Addr} {rs : List Int} {v : Int} : (upd H D (.lst (rs.map V.int ++ [V.int v]))) D = some (.lst ((rs ++ [v]).map V.int)) := by
  rw [upd_same, List.map_append]
  rfl
theorem pow_lt_iff {k h : Nat} : 2 ^ k < 2 ^ h ↔ k < h := Nat.pow_lt_pow_iff_right (by omega)
theorem cl_law_bound_row (D : Df K mg "_law_bound_row" s_law_bound_row ["script", "table", "cell"] f fd) (B : Bl mg) (C_law_poured : Cl P w K mg base 2 "_law_poured" ["script", "many"] (spPoured K)) (C_law_mixed : Cl P w K mg base 1 "_law_mixed" ["cell", "k"] spMixed) :
    Cl P w K mg base 3 "_law_bound_row" ["script", "table", "cell"] (spBound K) := D.cl (by
  refine D.F.ok sc_law_bound_row (fun vs H Q E h => ?_) (fun cdv A outer s H vs Q E hr h => ?_)
  · obtain ⟨a, b, ns, T, h, c, rfl, _⟩ := h
    rfl
  · obtain ⟨a, b, ns, T, h, c, rfl, hA, hl, hB, lB, h1, hh, q⟩ := h
    have h64 := pow_small hh
    have hl' : (T.map V.int).length = 2 ^ h := by rw [List.length_map, lB]
    refine ⟨_, PSs.nox (pss_cons (ps_set (i := 3) sc_law_bound_row.nd rfl (.inl rfl) (pe_cl C_law_poured (hr.mono (by decide)) (by rfl) (pa_cons (pv 0) (pa_cons pe_int pa_nil))))
  (pss_cons (ps_set (i := 4) sc_law_bound_row.nd rfl (.inl rfl) (pe_lst pa_nil))
  (pss_cons (ps_for PassesOwn.never rfl (pi_range1 (by rfl) B.range (pa_cons pe_int pa_nil)) (pg_name (i := 5) sc_law_bound_row.nd rfl (.inl rfl))
  (pss_one (ps_if (pt_cmpR op_lt (pe_op op_oneShlN pe_int (pv 5)) (pe_callB (r := lenR K) call_lenK (by rfl) B.len PySem.boot_len (pa_cons (pv 1) pa_nil)) (nomark _))
  (pss_cons (ps_set (i := 6) sc_law_bound_row.nd rfl (.inl rfl) (pe_cl C_law_mixed (hr.mono (by decide)) (by rfl) (pa_cons (pv 2) (pa_cons (pe_op op_add pe_int (pv 5)) pa_nil))))
  (pss_cons (ps_set (i := 7) sc_law_bound_row.nd rfl (.inl rfl) (pe_op op_sub (pe_ix (r := rIxL K) ix_list (pv 1) (pe_op op_oneShlN pe_int (pv 5)) (fun _ _ => rfl)) (pe_op op_modP (pe_op op_fdivW (pv 6) pe_int) pe_int)))
  (pss_cons (ps_set (i := 8) sc_law_bound_row.nd rfl (.inl rfl) (pe_op op_sub (pe_op op_add (pe_op op_sub (pe_ix (r := rIxL K) ix_list (pv 1) (pe_un un_neg pe_int) (fun _ _ => rfl)) (pe_ix (r := rIxL K) ix_list (pv 1) (pe_op op_sub (pe_un un_neg pe_int) (pe_op op_oneShlN pe_int (pv 5))) (fun _ _ => rfl))) (pe_op op_modP (pe_op op_fdivW (pv 6) pe_int) pe_int)) pe_int))
  (pss_cons (ps_set (i := 9) sc_law_bound_row.nd rfl (.inl rfl) (pe_op op_mul (pe_ix (r := rIxL K) ix_list (pv 3) (pv 5) (fun _ _ => rfl)) (pe_op op_sub pe_int (pe_op op_mul pe_int (pe_op op_modP (pe_op op_fdivW (pv 6) pe_int) pe_int)))))
  (pss_one (ps_expr (pe_bm PySem.F.plainAttrs_list PySem.F.slot_list_append PySem.F.type_list_append mt_append (pv 4) (pa_cons (pe_ix (r := rIxL K) ix_list (pe_lst (pa_cons (pv 7) (pa_cons (pv 8) (pa_cons (pe_op op_sub (pe_op op_modP (pe_op op_fdivW (pv 6) pe_int) pe_int) pe_int) (pa_cons (pv 9) (pa_cons (pv 8) pa_nil)))))) (pe_op op_modP (pv 6) pe_int) (fun _ _ => rfl)) pa_nil)))))))) pss_nil)))
  (pss_one (ps_ret (pv 4)))))), ?_⟩
    refine ⟨_, rfl, a, ns, 6, rfl, hA, hl, by omega, by omega, fun H1 N1 zs s1 n1 e1 lz bz => ?_⟩
    refine ⟨Nat.zero_le _, fun D1 nD => ?_⟩
    have nHD := s1.free nD
    have ne1 : N1 ≠ D1 := ne_of_none e1 nD
    refine ⟨_, rfl, by decide, by decide, ?_⟩
    refine for_rngJ (n := 6) rfl (fun i σ H' => ∃ (rs : List Int) (v5 v6 v7 v8 v9 : Option V), σ = [some (.ref a), some (.ref b), some (.int c), some (.ref N1), some (.ref D1), v5, v6, v7, v8, v9] ∧ Same H H' ∧ H' N1 = some (.lst (zs.map V.int)) ∧ H' D1 = some (.lst (rs.map V.int)) ∧ rs.length = min i h)
      ⟨[], none, none, none, none, none, rfl, same_put s1 nHD, by rw [upd_ne ne1]; exact e1, upd_same, by show 0 = min 0 h; omega⟩ ?_ ?_
    · rintro k σ H2 hk ⟨rs, v5, v6, v7, v8, v9, rfl, s2, e2, eD, lr⟩
      refine ⟨_, rfl, k, rfl, rfl, by omega, _, rfl, b, _, rfl, .inl (s2.seq hB), _, _, rfl, rfl, _, rfl, ite2 (fun e => ?_) (fun e => ?_)⟩
      · have hkh : k < h := by
          have := of_decide_eq_true e
          rw [hl'] at this
          exact pow_lt_iff.mp (by omega)
        have p1 : 2 ^ k < 2 ^ h := pow_lt_iff.mpr hkh
        have p0 := Nat.two_pow_pos k
        refine ⟨_, rfl, _, rfl, _, _, rfl, rfl, _, _, rfl, by omega, by omega, ?_⟩
        refine ⟨_, rfl, _, rfl, k, rfl, rfl, by omega, b, _, _, _, rfl, rfl, s2.seq hB, ints_atI (g := 2 ^ k) (by omega), _, rfl, _, _, rfl, rfl, ⟨by decide, by decide +kernel⟩, _, _, rfl, rfl, by decide, _, _, rfl, rfl, ?_⟩
        refine ⟨_, rfl, _, rfl, b, _, _, _, rfl, rfl, s2.seq hB, atI_neg (d := 1) rfl (by omega) (by omega), _, rfl, _, rfl, _, rfl, k, rfl, rfl, by omega, _, _, rfl, rfl, b, _, _, _, rfl, rfl, s2.seq hB,
          atI_neg (d := 1 + 2 ^ k) (by omega) (by omega) (by omega), _, _, rfl, rfl, _, rfl, _, _, rfl, rfl, ⟨by decide, by decide +kernel⟩, _, _, rfl, rfl, by decide, _, _, rfl, rfl, _, _, rfl, rfl, ?_⟩
        refine ⟨_, rfl, _, rfl, N1, _, _, _, rfl, rfl, SqL.of e2, ints_atI (g := k) (by omega), ?_⟩
        have m0 : ∀ z : Int, 0 ≤ z % 2 := fun z => Int.emod_nonneg _ (by decide)
        have m1 : ∀ z : Int, z % 2 < 2 := fun z => Int.emod_lt_of_pos _ (by decide)
        refine ⟨_, rfl, _, _, rfl, rfl, ⟨by decide, by decide +kernel⟩, _, _, rfl, rfl, by decide, _, _, rfl, rfl, .inl ⟨by decide, by decide⟩, _, _, rfl, rfl, _, _, rfl, rfl, .inr ⟨?_, ?_⟩, ?_⟩
        · have := m0 (mixF c (30 + (k : Int)) / 5)
          have := m1 (mixF c (30 + (k : Int)) / 5)
          omega
        · have := m0 (mixF c (30 + (k : Int)) / 5)
          have := m1 (mixF c (30 + (k : Int)) / 5)
          omega
        refine ⟨_, rfl, .inl ⟨rfl, _, SqL.of eD⟩, ?_⟩
        refine ⟨_, rfl, _, rfl, _, rfl, _, _, rfl, rfl, ⟨by decide, by decide +kernel⟩, _, _, rfl, rfl, by decide, _, _, rfl, rfl, _, rfl, _, rfl, (by show 5 ≤ sizeLine; decide), fun p np => ?_⟩
        refine ⟨_, rfl, _, _, rfl, rfl, by decide, ?_⟩
        have t0 : 0 ≤ mixF c (30 + (k : Int)) % 5 := Int.emod_nonneg _ (by decide)
        have t1 : mixF c (30 + (k : Int)) % 5 < 5 := Int.emod_lt_of_pos _ (by decide)
        obtain ⟨j, ej⟩ : ∃ j : Nat, mixF c (30 + (k : Int)) % 5 = (j : Int) := ⟨(mixF c (30 + (k : Int)) % 5).toNat, by omega⟩
        refine ⟨p, [.int _, .int _, .int _, .int _, .int _], _, .int (gt [_, _, _, _, _] j), rfl, rfl, SqL.of upd_same, at_of ej (ints_at (T := [_, _, _, _, _]) (show j < 5 by omega)), ?_⟩
        have np1 : D1 ≠ p := ne_of_none eD np
        refine ⟨D1, _, _, rfl, rfl, by rw [upd_ne np1]; exact eD, ?_, ?_⟩
        · rw [List.length_map]
          exact small1000 (by omega)
        · refine ⟨rs ++ [_], _, _, _, _, _, rfl, same_put (s2.trans (same_new np)) nHD, ?_, app_at, ?_⟩
          · rw [upd_ne ne1]
            exact same_new np _ _ e2
          · rw [List.length_append]
            show rs.length + 1 = _
            omega
      · have hkh : ¬ k < h := fun z => e (decide_eq_true (by
          rw [hl']
          have := (pow_lt_iff (k := k) (h := h)).mpr z
          omega))
        exact ⟨rs, _, _, _, _, _, rfl, s2, e2, eD, by omega⟩
    · rintro σ H2 ⟨rs, v5, v6, v7, v8, v9, rfl, s2, e2, eD, lr⟩
      exact ⟨_, rfl, q H2 D1 rs s2 nHD eD (by omega)⟩)
end
end Gc
namespace Gc
open PySem PySem.Spec PyProof.Rows L2
theorem prt_cst {T rs : List Int} {h g : Nat} (hg : g < 2 ^ h) : prtF T (tabL (2 ^ h) (giv rs)) h g = cstF T rs h g := by
  unfold prtF cstF
  rw [gt_tabL _ (show 2 ^ h - 1 - g < 2 ^ h by omega)]
theorem min_one {n : Nat} {F : Nat → Int} {m m' : Int} (a : ∃ g, g < n ∧ m = F g) (b : ∀ g, g < n → m ≤ F g) (a' : ∃ g, g < n ∧ m' = F g) (b' : ∀ g, g < n → m' ≤ F g) : m = m' := by
  obtain ⟨g, hg, e⟩ := a
  obtain ⟨g', hg', e'⟩ := a'
  have h1 := b g' hg'
  have h2 := b' g hg
  omega
theorem first_filter {n j : Nat} {b : Nat → Bool} (hj : j < n) (bj : b j = true) (h : ∀ i, i < j → b i = false) : ∃ r, (List.range n).filter b = j :: r := by
  have e : List.range n = List.range j ++ (j :: List.range' (j + 1) (n - (j + 1))) := by
    have a := List.range'_append_1 (s := 0) (m := j) (n := n - (j + 1) + 1)
    rw [Nat.zero_add, List.range'_succ, show j + (n - (j + 1) + 1) = n by omega] at a
    rw [List.range_eq_range', List.range_eq_range', a]
  rw [e, List.filter_append, List.filter_eq_nil_iff.mpr (fun i hi => by rw [h i (List.mem_range.mp hi)]; exact Bool.false_ne_true), List.filter_cons_of_pos bj]
  exact ⟨_, rfl⟩
theorem no_over {h k : Nat} {rs sh : List Int} (hh : h ≤ 6) (hk : k < h) (u : Under h (tabL (2 ^ h) (giv rs)) sh) : gt sh k ≤ gt rs k := by
  have p : 2 ^ k < 2 ^ h := Nat.pow_lt_pow_right (by omega) hk
  have q := u (2 ^ k) p
  rw [gt_tabL _ p, giv_pow sh k (by omega), giv_pow rs k (by omega)] at q
  exact q
section
variable {P : Program} {w : World} {K : PySem.W.Frag} {mg : Str → Option Value} {base : Heap} {f : Addr} {fd : FuncData}
abbrev s_law : Stmt := top 45
theorem sc_law : FnScope ["script", "hands", "table", "prices", "due", "outside", "told", "shares", "group", "k"] ["script"] (defScope s_law) := ⟨rfl, rfl, rfl, by decide +kernel, rfl, by decide +kernel, by decide +kernel⟩
def spLaw (K : PySem.W.Frag) : Sp := fun vs H Q _ => ∃ (a : Addr) (ns : List Int), vs = [.ref a] ∧ SqL K H a (ns.map V.int) ∧ ns.length ≤ 63 ∧ ∀ H', Q (.bl true) H'
theorem ok_law (D : Df K mg "law" s_law ["script"] f fd) (B : Bl mg) (C_law_size : Cl P w K mg base 1 "_law_size" ["cell"] spSize) (C_law_cell : Cl P w K mg base 1 "_law_cell" ["script", "k"] (spCell K))
    (C_law_falling : Cl P w K mg base 4 "_law_falling" ["script", "hands", "cell"] (spFalling K)) (C_law_bound_row : Cl P w K mg base 3 "_law_bound_row" ["script", "table", "cell"] (spBound K)) (C_law_given : Cl P w K mg base 1 "_law_given" ["row", "group"] (spGiven K))
    (C_row_table : Cl P w K mg base 3 "row_table" ["row"] (spRowTable K)) (C_parting : Cl P w K mg base 2 "parting" ["one", "other"] (spParting K)) (C_least_cost : Cl P w K mg base 5 "least_cost" ["table", "prices"] (spLeastCost K))
    (C_cheapest_groups : Cl P w K mg base 5 "cheapest_groups" ["table", "prices"] (spCheapest K)) (C_common : Cl P w K mg base 6 "common" ["one", "other"] (spCommon K)) (C_law_is_under : Cl P w K mg base 2 "_law_is_under" ["table", "row"] (spIsUnder K))
    (C_law_numbers : Cl P w K mg base 2 "_law_numbers" ["found", "due"] (spNumbers K)) : FnOk P w K mg base CX0 7 f fd ["script"] (spLaw K) := by
  refine D.F.ok sc_law (fun vs H Q E h => ?_) (fun cdv A outer s H vs Q E hr h => ?_)
  · obtain ⟨a, ns, rfl, _⟩ := h
    rfl
  · obtain ⟨a, ns, rfl, hS, hl, q⟩ := h
    refine ⟨_, PSs.nox (pss_cons (ps_set (i := 1) sc_law.nd rfl (.inl rfl) (pe_cl C_law_size (hr.mono (by decide)) (by rfl) (pa_cons (pe_cl C_law_cell (hr.mono (by decide)) (by rfl) (pa_cons (pv 0) (pa_cons pe_int pa_nil))) pa_nil)))
  (pss_cons (ps_set (i := 2) sc_law.nd rfl (.inr rfl) (pe_cl C_law_falling (hr.mono (by decide)) (by rfl) (pa_cons (pv 0) (pa_cons (pv 1) (pa_cons (pe_cl C_law_cell (hr.mono (by decide)) (by rfl) (pa_cons (pv 0) (pa_cons pe_int pa_nil))) pa_nil)))))
  (pss_cons (ps_set (i := 3) sc_law.nd rfl (.inr rfl) (pe_cl C_law_bound_row (hr.mono (by decide)) (by rfl) (pa_cons (pv 0) (pa_cons (pv 2) (pa_cons (pe_cl C_law_cell (hr.mono (by decide)) (by rfl) (pa_cons (pv 0) (pa_cons pe_int pa_nil))) pa_nil)))))
  (pss_cons (ps_set (i := 4) sc_law.nd rfl (.inl rfl) (pe_callB (cr_min rfl) (by rfl) B.min boot_min (pa_cons (pe_lc (own := [("group", 8)]) (g := gName 8) rfl sc_law.nd (pi_range1 (by rfl) B.range (pa_cons (pe_callB (r := lenR K) call_lenK (by rfl) B.len PySem.boot_len (pa_cons (pv 2) pa_nil)) pa_nil)) (blkOk_by (own := [("group", 8)]) (N := ["script", "hands", "table", "prices", "due", "outside", "told", "shares", "group", "k"]) (sc := defScope s_law) (by decide +kernel))
    (fun _ _ _ _ _ => (pg_name (i := 8) sc_law.nd rfl (.inl rfl))) (fun _ _ _ _ _ => pts_nil)
    (fun _ _ _ _ _ => (pe_op op_add (pe_ix (r := rIxL K) ix_list (pv 2) (pv 8) (fun _ _ => rfl)) (pe_cl C_law_given (hr.mono (by decide)) (by rfl) (pa_cons (pv 3) (pa_cons (pe_op op_sub (pe_op op_sub (pe_callB (r := lenR K) call_lenK (by rfl) B.len PySem.boot_len (pa_cons (pv 2) pa_nil)) pe_int) (pv 8)) pa_nil)))))) pa_nil)))
  (pss_cons (ps_set (i := 5) sc_law.nd rfl (.inl rfl) (pe_cl C_row_table (hr.mono (by decide)) (by rfl) (pa_cons (pe_callTy call_list_of (by rfl) B.list b_list (pa_cons (pv 3) pa_nil)) pa_nil)))
  (pss_cons (ps_set (i := 6) sc_law.nd rfl (.inl rfl) (pe_cl C_parting (hr.mono (by decide)) (by rfl) (pa_cons (pe_callTy call_list_of (by rfl) B.list b_list (pa_cons (pv 2) pa_nil)) (pa_cons (pv 5) pa_nil))))
  (pss_cons (ps_if (PW.pt (pw_or (pt_cmpR op_ne (pe_ix (r := rIxT K) ix_tup (pv 6) pe_int (fun _ _ => rfl)) (pv 4) (nomark _)) (pw_or1 (pt_cmpR op_ne (pe_cl C_least_cost (hr.mono (by decide)) (by rfl) (pa_cons (pe_callTy call_list_of (by rfl) B.list b_list (pa_cons (pv 2) pa_nil)) (pa_cons (pe_callTy call_list_of (by rfl) B.list b_list (pa_cons (pv 3) pa_nil)) pa_nil))) (pv 4) (nomark _)))))
  (pss_one (ps_ret pe_bl)) pss_nil)
  (pss_cons (ps_if (pt_cmpR op_ne (pe_ix (r := rIxL K) ix_list (pe_cl C_cheapest_groups (hr.mono (by decide)) (by rfl) (pa_cons (pe_callTy call_list_of (by rfl) B.list b_list (pa_cons (pv 2) pa_nil)) (pa_cons (pe_callTy call_list_of (by rfl) B.list b_list (pa_cons (pv 3) pa_nil)) pa_nil))) pe_int (fun _ _ => rfl)) (pe_ix (r := rIxT K) ix_tup (pv 6) pe_int (fun _ _ => rfl)) (nomark _))
  (pss_one (ps_ret pe_bl)) pss_nil)
  (pss_cons (ps_set (i := 7) sc_law.nd rfl (.inr rfl) (pe_ix (r := rIxT K) ix_tup (pe_cl C_common (hr.mono (by decide)) (by rfl) (pa_cons (pe_callTy call_list_of (by rfl) B.list b_list (pa_cons (pv 2) pa_nil)) (pa_cons (pv 5) pa_nil))) pe_int (fun _ _ => rfl)))
  (pss_cons (ps_if (PW.pt (pw_or (pt_not (pt_val (pe_cl C_law_numbers (hr.mono (by decide)) (by rfl) (pa_cons (pv 7) (pa_cons (pv 7) pa_nil))))) (pw_or (pt_cmpR op_ne (pe_callB (r := lenR K) call_lenK (by rfl) B.len PySem.boot_len (pa_cons (pv 7) pa_nil)) (pv 1) (nomark _)) (pw_or1 (pt_not (pt_val (pe_cl C_law_is_under (hr.mono (by decide)) (by rfl) (pa_cons (pv 2) (pa_cons (pv 7) pa_nil)))))))))
  (pss_one (ps_ret pe_bl)) pss_nil)
  (pss_one (ps_ret (pe_and (pe_cmpR (op_eqD hr.units) (pe_lc (own := [("k", 9)]) (g := gName 9) rfl sc_law.nd (pi_range1 (by rfl) B.range (pa_cons (pv 1) pa_nil)) (blkOk_by (own := [("k", 9)]) (N := ["script", "hands", "table", "prices", "due", "outside", "told", "shares", "group", "k"]) (sc := defScope s_law) (by decide +kernel))
    (fun _ _ _ _ _ => (pg_name (i := 9) sc_law.nd rfl (.inl rfl))) (fun _ _ _ _ _ => (pts_one (pt_cmpR op_gt (pe_ix (r := rIxL K) ix_list (pv 7) (pv 9) (fun _ _ => rfl)) (pe_ix (r := rIxL K) ix_list (pv 3) (pv 9) (fun _ _ => rfl)) (nomark _))))
    (fun _ _ _ _ _ => (pv 9))) (pe_lst pa_nil) (nomark _)) (pe_one (pe_cmpR op_eq (pe_callB (r := rSum K) (cr_sum rfl) (by rfl) B.sum boot_sum (pa_cons (pv 7) pa_nil)) (pv 4) (nomark _)))))))))))))))), ?_⟩
    refine ⟨_, rfl, a, ns, 0, rfl, hS, fun c0 _ => ⟨c0, rfl, fun H1 h s1 h1 hh => ?_⟩⟩
    refine ⟨_, rfl, _, rfl, _, rfl, a, ns, 1, rfl, s1.seq hS, fun c1 _ => ⟨a, ns, h, c1, rfl, s1.seq hS, hl, h1, hh, fun H2 pt T s2 nt et t => ?_⟩⟩
    refine ⟨_, rfl, _, rfl, _, rfl, a, ns, 2, rfl, (s1.trans s2).seq hS, fun c2 _ => ⟨a, pt, ns, T, h, c2, rfl, (s1.trans s2).seq hS, hl, SqL.of et, t.len, h1, hh, fun H3 pp rs s3 np ep lr => ?_⟩⟩
    have h64 := pow_small hh
    have hpos := Nat.two_pow_pos h
    have lT : (T.map V.int).length = 2 ^ h := by rw [List.length_map, t.len]
    have et3 := s3 _ _ et
    -- due
    refine ⟨_, rfl, pt, _, rfl, .inl (SqL.of et3), _, rfl, rng_lo, rng_hi (by omega), fun D1 nD => ?_⟩
    refine lc_rngYJ (n := 2 ^ h) (congrArg _ lT) (fun i => .int (cstF T rs h i)) nD (by omega) (fun _ => rfl) ?_ ?_
    · intro i H4 R hi s4 r
      refine ⟨_, rfl, _, rfl, pt, _, _, _, rfl, rfl, SqL.of (s4 _ _ et3), ints_atI (show i < T.length by rw [t.len]; exact hi), ?_⟩
      refine ⟨_, rfl, _, rfl, pt, _, rfl, .inl (SqL.of (s4 _ _ et3)), _, _, rfl, rfl, _, rfl, _, _, rfl, rfl, pp, rs, 2 ^ h - 1 - i, ?_, SqL.of (s4 _ _ ep), by omega, fun H5 s5 => ?_⟩
      · show [V.ref pp, V.int (((T.map V.int).length : Int) - 1 - (i : Int))] = _
        rw [lT, show ((2 ^ h : Nat) : Int) - 1 - (i : Int) = ((2 ^ h - 1 - i : Nat) : Int) by omega]
      · exact ⟨_, _, rfl, rfl, r H5 s5⟩
    intro H4 s4 e4
    rw [map_int] at e4
    refine ⟨D1, _, rfl, SqL.of e4, by rw [tabL_len]; exact hpos, fun due hm hle => ?_⟩
    have due1 := mem_tabL hm
    have due2 : ∀ g, g < 2 ^ h → due ≤ cstF T rs h g := fun g hg => hle _ (tabL_mem _ hg)
    have et4 := s4 _ _ et3
    have ep4 := s4 _ _ ep
    clear e4 hm hle
    -- outside
    refine ⟨_, rfl, pp, _, rfl, .inl (SqL.of ep4), fun l1 nl1 => ⟨l1, rs, rfl, SqL.of upd_same, by omega, fun H5 po s5 no eo => ?_⟩⟩
    have s45 := (same_new nl1).trans s5
    have et5 := s45 _ _ et4
    have ep5 := s45 _ _ ep4
    rw [lr] at eo
    -- told
    refine ⟨_, rfl, pt, _, rfl, .inl (SqL.of et5), fun l2 nl2 => ⟨_, rfl, l2, po, T, tabL (2 ^ h) (giv rs), h, rfl, SqL.of upd_same, SqL.of (same_new nl2 _ _ eo), t.len, tabL_len _ _, hh, fun H6 tt j m s6 ntt ett hj em part lj => ?_⟩⟩
    have s56 := (same_new nl2).trans s6
    have et6 := s56 _ _ et5
    have ep6 := s56 _ _ ep5
    have eo6 := s56 _ _ eo
    have emd : m = due := min_one (F := cstF T rs h) ⟨j, hj, by rw [em, prt_cst hj]⟩ (fun g hg => by
      have := part g hg
      rw [← prt_cst hg]
      exact this) due1 due2
    subst emd
    -- told[1] != due or least_cost(..) != due
    refine ⟨_, rfl, tt, _, _, _, rfl, rfl, SqT.of ett, atI_nat (j := 1) rfl, _, rfl, rfl, _, rfl, iteNS rfl ?_⟩
    refine ⟨_, rfl, pt, _, rfl, .inl (SqL.of et6), fun l3 nl3 => ⟨_, rfl, pp, _, rfl, .inl (SqL.of (same_new nl3 _ _ ep6)), fun l4 nl4 =>
      ⟨l3, l4, T, rs, h, rfl, SqL.of (same_new nl4 _ _ upd_same), SqL.of upd_same, t.len, lr, hh, fun H7 m7 s7 a7 b7 => ?_⟩⟩⟩
    have s67 := ((same_new nl3).trans (same_new nl4)).trans s7
    have e7 : m7 = m := min_one a7 b7 due1 due2
    subst e7
    refine ⟨_, rfl, rfl, _, rfl, iteNS rfl ?_⟩
    have et7 := s67 _ _ et6
    have ep7 := s67 _ _ ep6
    have eo7 := s67 _ _ eo6
    have ett7 := s67 _ _ ett
    -- cheapest_groups(..)[0] != told[0]
    refine ⟨_, rfl, pt, _, rfl, .inl (SqL.of et7), fun l5 nl5 => ⟨_, rfl, pp, _, rfl, .inl (SqL.of (same_new nl5 _ _ ep7)), fun l6 nl6 =>
      ⟨l5, l6, T, rs, h, rfl, SqL.of (same_new nl6 _ _ upd_same), SqL.of upd_same, t.len, lr, hh, fun H8 pc8 m8 s8 n8 a8 b8 e8 => ?_⟩⟩⟩
    have s78 := ((same_new nl5).trans (same_new nl6)).trans s8
    have em8 : m8 = m7 := min_one a8 b8 due1 due2
    subst em8
    obtain ⟨r8, er8⟩ := first_filter (b := fun g => decide (cstF T rs h g = m8)) hj (decide_eq_true (by rw [em, prt_cst hj])) (fun i hi => decide_eq_false (by
      rw [← prt_cst (by omega)]
      exact lj i hi))
    rw [er8] at e8
    refine ⟨pc8, _, _, _, rfl, rfl, SqL.of e8, atI_nat (j := 0) rfl, _, rfl, tt, _, _, _, rfl, rfl, SqT.of (s78 _ _ ett7), atI_nat (j := 0) rfl, rfl, _, rfl, iteNS rfl ?_⟩
    have et8 := s78 _ _ et7
    have ep8 := s78 _ _ ep7
    have eo8 := s78 _ _ eo7
    -- shares
    refine ⟨_, rfl, pt, _, rfl, .inl (SqL.of et8), fun l7 nl7 => ⟨_, rfl, l7, po, T, tabL (2 ^ h) (giv rs), h, rfl, upd_same, same_new nl7 _ _ eo8, t, tab_row h rs, h1, hh, fun H9 t9 p9 sh j9 m9 s9 n9 et9 es ls u1 u2 sm hj9 em9 part9 => ?_⟩⟩
    have s89 := (same_new nl7).trans s9
    have e9 : m9 = m8 := min_one (F := cstF T rs h) ⟨j9, hj9, by rw [em9, prt_cst hj9]⟩ (fun g hg => by
      have := part9 g hg
      rw [← prt_cst hg]
      exact this) due1 due2
    subst e9
    refine ⟨t9, _, _, _, rfl, rfl, SqT.of et9, atI_nat (j := 0) rfl, ?_⟩
    have etA := s89 _ _ et8
    have epA := s89 _ _ ep8
    -- the looks at the shares
    refine ⟨_, rfl, _, rfl, p9, sh, rfl, es, by omega, true, rfl, iteF ?_⟩
    refine ⟨_, rfl, p9, _, rfl, .inl (SqL.of es), _, rfl, rfl, _, rfl, iteNS (by rw [List.length_map, ls]) ?_⟩
    refine ⟨_, rfl, _, rfl, pt, p9, T, sh, h, rfl, SqL.of etA, SqL.of es, t.len, hh, by omega, u1, fun HA sA => ⟨true, rfl, iteF ?_⟩⟩
    have esA := sA _ _ es
    have epB := sA _ _ epA
    -- no share above its price
    refine ⟨_, rfl, _, rfl, rng_lo, rng_hi (by omega), fun D2 nD2 => ?_⟩
    refine lc_rngJ (n := h) rfl (fun k => decide (gt rs k < gt sh k)) (fun k => .int (k : Int)) nD2 (by omega) (fun _ => rfl) ?_ ?_ ?_
    · intro k HB R hk sB r
      refine ⟨_, rfl, _, rfl, p9, _, _, _, rfl, rfl, SqL.of (sB _ _ esA), ints_atI (show k < sh.length by omega), _, rfl, _, rfl, pp, _, _, _, rfl, rfl, SqL.of (sB _ _ epB), ints_atI (show k < rs.length by omega), _, _, rfl, rfl, _, rfl, ?_⟩
      exact r HB (Same.refl _)
    · intro k HB R hk hb sB r
      exact ⟨_, rfl, r HB (Same.refl _)⟩
    · intro HB sB eB
      rw [no_one fun k hk => decide_eq_false (by have := no_over hh hk u2; omega)] at eB
      refine ⟨Nat.zero_le _, fun p0 np0 => ?_⟩
      have eB' := same_new (o := .lst []) np0 _ _ eB
      refine ⟨.list [], .list [], .lst (SqL.of eB') .nil, .lst (SqL.of upd_same) .nil, rfl, rfl, true, rfl, iteT ?_⟩
      refine ⟨_, rfl, p9, sh, rfl, SqL.of (same_new np0 _ _ (sB _ _ esA)), _, rfl, rfl, ?_⟩
      rw [sm, decide_eq_true rfl]
      exact q _
end
end Gc
set_option maxHeartbeats 0
namespace Gc
open PySem PySem.Spec PyProof.Rows L2
def mkD (x : Str) (i : Nat) : He.DefD := ⟨(x, none), x, x, defArgs (top i), defBody (top i), defScope (top i), [], []⟩
def fn : List He.DefD := ([mkD "hands_in" 6, mkD "hand_count" 8, mkD "everybody" 9, mkD "row_gives" 10, mkD "row_table" 11, mkD "pair_gap" 13, mkD "first_break" 14, mkD "break_of" 15, mkD "falls" 16, mkD "look_at_both" 18, mkD "look_at_falling" 19, mkD "parting" 20] : List He.DefD) ++ ([mkD "group_beside" 21, mkD "fixed_hand" 22, mkD "first_room" 23, mkD "common" 24, mkD "cost_with" 26, mkD "all_costs" 27, mkD "least_cost" 28, mkD "cheapest_groups" 29, mkD "_law_cell" 31, mkD "_law_mixed" 32, mkD "_law_whole" 33, mkD "_law_hands" 34] : List He.DefD) ++ ([mkD "_law_given" 35, mkD "_law_size" 36, mkD "_law_poured" 37, mkD "_law_row" 38, mkD "_law_tie_table" 39, mkD "_law_noise_table" 40, mkD "_law_falling" 41, mkD "_law_numbers" 42, mkD "_law_is_under" 43, mkD "_law_bound_row" 44, mkD "law" 45] : List He.DefD)
def fa : List He.Fa := ([.glo "hands_in", .glo "hand_count", .glo "everybody", .glo "row_gives", .glo "row_table", .glo "pair_gap", .glo "first_break", .glo "break_of", .glo "falls", .glo "look_at_both", .glo "look_at_falling", .glo "parting"] : List He.Fa) ++ ([.glo "group_beside", .glo "fixed_hand", .glo "first_room", .glo "common", .glo "cost_with", .glo "all_costs", .glo "least_cost", .glo "cheapest_groups", .glo "_law_cell", .glo "_law_mixed", .glo "_law_whole", .glo "_law_hands"] : List He.Fa) ++ ([.glo "_law_given", .glo "_law_size", .glo "_law_poured", .glo "_law_row", .glo "_law_tie_table", .glo "_law_noise_table", .glo "_law_falling", .glo "_law_numbers", .glo "_law_is_under", .glo "_law_bound_row", .glo "law"] : List He.Fa) ++ ([.free "len", .free "range", .free "sum", .free "min", .free "list", .free "isinstance", .free "int", .free "bool", .free "enumerate"] : List He.Fa)
def loose : List Str := (["CostError", "Unlike", "NotFalling", "NotUnder", "hands_in", "hand_count", "everybody", "row_gives", "row_table", "pair_gap", "first_break", "break_of", "falls"] : List Str) ++ (["look_at_both", "look_at_falling", "parting", "group_beside", "fixed_hand", "first_room", "common", "cost_with", "all_costs", "least_cost", "cheapest_groups", "_law_cell", "_law_mixed"] : List Str) ++ (["_law_whole", "_law_hands", "_law_given", "_law_size", "_law_poured", "_law_row", "_law_tie_table", "_law_noise_table", "_law_falling", "_law_numbers", "_law_is_under", "_law_bound_row"] : List Str)
abbrev R : PySem.W.OpenRow := PySem.W.OpenLaw.row PySem.Challenge.rw_groupcost_k56_whole_prices_as_a_table
abbrev hk : PySem.W.Hook := He.hookD 3 fa fn
def ob (s : PySem.W.SharedT) : He.AlD := He.obsDG 3 fa fn (HandSHeadRun.getT s)
theorem ob_eq (s : PySem.W.SharedT) : ob s = hk.obs s.abs := He.obsDG_eq (HandSHeadRun.getT_eq s)
theorem run (w : World) : HandSHeadRun.RunEq R (PySem.W.view R.prog [45]) hk ob 6000 loose w := by
  intro os
  kernel_rfl
theorem df_mk {K : PySem.W.Frag} {h : Heap} {mg : Str → Option Value} (X : K.In h) (G : h.Ns mainGlobals mg) (c : He.SaysD fa fn K) {x : Str} {i : Nat} {ps : List Str} (j : Nat) (e1 : fn[j]? = some (mkD x i)) (e2 : fa[j]? = some (.glo x))
    (hb : ∀ (kV doc pm : Value) (an : Option Addr) (cdv ct : Value) (us : List Value), us.length = ps.length → bindArgs (PySem.W.fnOf x x (defArgs (top i)) (defBody (top i)) (defScope (top i)) .none kV doc pm an cdv ct) ⟨us, []⟩ = pure (ps.zip us)) :
    ∃ fd : FuncData, Df K mg x (top i) ps (He.ga K x) fd := by
  obtain ⟨fd, F⟩ := c.def_ j e1
  have F' : FnP K x (top i) (He.ga K x) fd := F
  exact ⟨fd, F', He.glo_ok X G (c.fact j e2), F'.bindsN hb⟩
theorem facts {P : Program} {w : World} {K : PySem.W.Frag} {h : Heap} {mg : Str → Option Value} {f : Addr} (X : K.In h) (G : h.Ns mainGlobals mg) (hfa : mg ("law" : Str) = some (.ref f)) (c : He.SaysD fa fn K) :
    ∃ fd : FuncData, (∀ (s : Shared) (v : Value), BindsTo s fd ⟨[v], []⟩ [("script", v)]) ∧ ∀ base : Heap, K.In base → base.Ns mainGlobals mg → FnOk P w K mg base CX0 7 f fd ["script"] (spLaw K) := by
  have B : Bl mg := ⟨He.free_ok X G (c.fact 35 (f := .free "len") rfl), He.free_ok X G (c.fact 36 (f := .free "range") rfl), He.free_ok X G (c.fact 37 (f := .free "sum") rfl), He.free_ok X G (c.fact 38 (f := .free "min") rfl), He.free_ok X G (c.fact 39 (f := .free "list") rfl), He.free_ok X G (c.fact 40 (f := .free "isinstance") rfl), He.free_ok X G (c.fact 41 (f := .free "int") rfl), He.free_ok X G (c.fact 42 (f := .free "bool") rfl), He.free_ok X G (c.fact 43 (f := .free "enumerate") rfl)⟩
  obtain ⟨fd0, D0⟩ := df_mk X G c (x := "hands_in") (i := 6) (ps := ["group"]) 0 rfl rfl fun _ _ _ _ _ _ us hl => match us, hl with | [_], _ => rfl
  obtain ⟨fd1, D1⟩ := df_mk X G c (x := "hand_count") (i := 8) (ps := ["table"]) 1 rfl rfl fun _ _ _ _ _ _ us hl => match us, hl with | [_], _ => rfl
  obtain ⟨fd2, D2⟩ := df_mk X G c (x := "everybody") (i := 9) (ps := ["table"]) 2 rfl rfl fun _ _ _ _ _ _ us hl => match us, hl with | [_], _ => rfl
  obtain ⟨fd3, D3⟩ := df_mk X G c (x := "row_gives") (i := 10) (ps := ["row", "group"]) 3 rfl rfl fun _ _ _ _ _ _ us hl => match us, hl with | [_, _], _ => rfl
  obtain ⟨fd4, D4⟩ := df_mk X G c (x := "row_table") (i := 11) (ps := ["row"]) 4 rfl rfl fun _ _ _ _ _ _ us hl => match us, hl with | [_], _ => rfl
  obtain ⟨fd5, D5⟩ := df_mk X G c (x := "pair_gap") (i := 13) (ps := ["table", "group", "one", "other"]) 5 rfl rfl fun _ _ _ _ _ _ us hl => match us, hl with | [_, _, _, _], _ => rfl
  obtain ⟨fd6, D6⟩ := df_mk X G c (x := "first_break") (i := 14) (ps := ["table", "sign"]) 6 rfl rfl fun _ _ _ _ _ _ us hl => match us, hl with | [_, _], _ => rfl
  obtain ⟨fd7, D7⟩ := df_mk X G c (x := "break_of") (i := 15) (ps := ["table"]) 7 rfl rfl fun _ _ _ _ _ _ us hl => match us, hl with | [_], _ => rfl
  obtain ⟨fd8, D8⟩ := df_mk X G c (x := "falls") (i := 16) (ps := ["table"]) 8 rfl rfl fun _ _ _ _ _ _ us hl => match us, hl with | [_], _ => rfl
  obtain ⟨fd9, D9⟩ := df_mk X G c (x := "look_at_both") (i := 18) (ps := ["one", "other"]) 9 rfl rfl fun _ _ _ _ _ _ us hl => match us, hl with | [_, _], _ => rfl
  obtain ⟨fd10, D10⟩ := df_mk X G c (x := "look_at_falling") (i := 19) (ps := ["one", "other"]) 10 rfl rfl fun _ _ _ _ _ _ us hl => match us, hl with | [_, _], _ => rfl
  obtain ⟨fd11, D11⟩ := df_mk X G c (x := "parting") (i := 20) (ps := ["one", "other"]) 11 rfl rfl fun _ _ _ _ _ _ us hl => match us, hl with | [_, _], _ => rfl
  obtain ⟨fd12, D12⟩ := df_mk X G c (x := "group_beside") (i := 21) (ps := ["group", "hand"]) 12 rfl rfl fun _ _ _ _ _ _ us hl => match us, hl with | [_, _], _ => rfl
  obtain ⟨fd13, D13⟩ := df_mk X G c (x := "fixed_hand") (i := 22) (ps := ["table", "hand", "share"]) 13 rfl rfl fun _ _ _ _ _ _ us hl => match us, hl with | [_, _, _], _ => rfl
  obtain ⟨fd14, D14⟩ := df_mk X G c (x := "first_room") (i := 23) (ps := ["one", "other", "least"]) 14 rfl rfl fun _ _ _ _ _ _ us hl => match us, hl with | [_, _, _], _ => rfl
  obtain ⟨fd15, D15⟩ := df_mk X G c (x := "common") (i := 24) (ps := ["one", "other"]) 15 rfl rfl fun _ _ _ _ _ _ us hl => match us, hl with | [_, _], _ => rfl
  obtain ⟨fd16, D16⟩ := df_mk X G c (x := "cost_with") (i := 26) (ps := ["table", "prices", "group"]) 16 rfl rfl fun _ _ _ _ _ _ us hl => match us, hl with | [_, _, _], _ => rfl
  obtain ⟨fd17, D17⟩ := df_mk X G c (x := "all_costs") (i := 27) (ps := ["table", "prices"]) 17 rfl rfl fun _ _ _ _ _ _ us hl => match us, hl with | [_, _], _ => rfl
  obtain ⟨fd18, D18⟩ := df_mk X G c (x := "least_cost") (i := 28) (ps := ["table", "prices"]) 18 rfl rfl fun _ _ _ _ _ _ us hl => match us, hl with | [_, _], _ => rfl
  obtain ⟨fd19, D19⟩ := df_mk X G c (x := "cheapest_groups") (i := 29) (ps := ["table", "prices"]) 19 rfl rfl fun _ _ _ _ _ _ us hl => match us, hl with | [_, _], _ => rfl
  obtain ⟨fd20, D20⟩ := df_mk X G c (x := "_law_cell") (i := 31) (ps := ["script", "k"]) 20 rfl rfl fun _ _ _ _ _ _ us hl => match us, hl with | [_, _], _ => rfl
  obtain ⟨fd21, D21⟩ := df_mk X G c (x := "_law_mixed") (i := 32) (ps := ["cell", "k"]) 21 rfl rfl fun _ _ _ _ _ _ us hl => match us, hl with | [_, _], _ => rfl
  obtain ⟨fd22, D22⟩ := df_mk X G c (x := "_law_whole") (i := 33) (ps := ["found"]) 22 rfl rfl fun _ _ _ _ _ _ us hl => match us, hl with | [_], _ => rfl
  obtain ⟨fd23, D23⟩ := df_mk X G c (x := "_law_hands") (i := 34) (ps := ["group"]) 23 rfl rfl fun _ _ _ _ _ _ us hl => match us, hl with | [_], _ => rfl
  obtain ⟨fd24, D24⟩ := df_mk X G c (x := "_law_given") (i := 35) (ps := ["row", "group"]) 24 rfl rfl fun _ _ _ _ _ _ us hl => match us, hl with | [_, _], _ => rfl
  obtain ⟨fd25, D25⟩ := df_mk X G c (x := "_law_size") (i := 36) (ps := ["cell"]) 25 rfl rfl fun _ _ _ _ _ _ us hl => match us, hl with | [_], _ => rfl
  obtain ⟨fd26, D26⟩ := df_mk X G c (x := "_law_poured") (i := 37) (ps := ["script", "many"]) 26 rfl rfl fun _ _ _ _ _ _ us hl => match us, hl with | [_, _], _ => rfl
  obtain ⟨fd27, D27⟩ := df_mk X G c (x := "_law_row") (i := 38) (ps := ["number", "hands"]) 27 rfl rfl fun _ _ _ _ _ _ us hl => match us, hl with | [_, _], _ => rfl
  obtain ⟨fd28, D28⟩ := df_mk X G c (x := "_law_tie_table") (i := 39) (ps := ["script", "hands"]) 28 rfl rfl fun _ _ _ _ _ _ us hl => match us, hl with | [_, _], _ => rfl
  obtain ⟨fd29, D29⟩ := df_mk X G c (x := "_law_noise_table") (i := 40) (ps := ["script", "hands", "wide"]) 29 rfl rfl fun _ _ _ _ _ _ us hl => match us, hl with | [_, _, _], _ => rfl
  obtain ⟨fd30, D30⟩ := df_mk X G c (x := "_law_falling") (i := 41) (ps := ["script", "hands", "cell"]) 30 rfl rfl fun _ _ _ _ _ _ us hl => match us, hl with | [_, _, _], _ => rfl
  obtain ⟨fd31, D31⟩ := df_mk X G c (x := "_law_numbers") (i := 42) (ps := ["found", "due"]) 31 rfl rfl fun _ _ _ _ _ _ us hl => match us, hl with | [_, _], _ => rfl
  obtain ⟨fd32, D32⟩ := df_mk X G c (x := "_law_is_under") (i := 43) (ps := ["table", "row"]) 32 rfl rfl fun _ _ _ _ _ _ us hl => match us, hl with | [_, _], _ => rfl
  obtain ⟨fd33, D33⟩ := df_mk X G c (x := "_law_bound_row") (i := 44) (ps := ["script", "table", "cell"]) 33 rfl rfl fun _ _ _ _ _ _ us hl => match us, hl with | [_, _, _], _ => rfl
  obtain ⟨fd34, D34⟩ := df_mk X G c (x := "law") (i := 45) (ps := ["script"]) 34 rfl rfl fun _ _ _ _ _ _ us hl => match us, hl with | [_], _ => rfl
  have e := hfa.symm.trans D34.g
  cases e
  refine ⟨fd34, fun s v => FunD.bindsA (ps := ["script"]) D34.F (fun _ _ _ _ _ _ us hl => match us, hl with | [_], _ => rfl) s [v] rfl, fun base _ _ => ?_⟩
  have C_hands_in := cl_hands_in (P := P) (w := w) (base := base) D0
  have C_hand_count := cl_hand_count (P := P) (w := w) (base := base) D1 B
  have C_everybody := cl_everybody (P := P) (w := w) (base := base) D2 B
  have C_row_gives := cl_row_gives (P := P) (w := w) (base := base) D3 B C_hands_in
  have C_row_table := cl_row_table (P := P) (w := w) (base := base) D4 B C_row_gives
  have C_pair_gap := cl_pair_gap (P := P) (w := w) (base := base) D5
  have C_first_break := cl_first_break (P := P) (w := w) (base := base) D6 B C_hand_count C_pair_gap
  have C_break_of := cl_break_of (P := P) (w := w) (base := base) D7 C_first_break
  have C_falls := cl_falls (P := P) (w := w) (base := base) D8 C_break_of
  have C_look_at_both := cl_look_at_both (P := P) (w := w) (base := base) D9 B
  have C_look_at_falling := cl_look_at_falling (P := P) (w := w) (base := base) D10 C_look_at_both C_falls
  have C_parting := cl_parting (P := P) (w := w) (base := base) D11 B C_look_at_both C_everybody
  have C_group_beside := cl_group_beside (P := P) (w := w) (base := base) D12
  have C_fixed_hand := cl_fixed_hand (P := P) (w := w) (base := base) D13 B C_group_beside
  have C_first_room := cl_first_room (P := P) (w := w) (base := base) D14 B C_everybody
  have C_common := cl_common (P := P) (w := w) (base := base) D15 B C_look_at_falling C_parting C_first_room C_fixed_hand
  have C_cost_with := cl_cost_with (P := P) (w := w) (base := base) D16 C_row_gives C_everybody
  have C_all_costs := cl_all_costs (P := P) (w := w) (base := base) D17 B C_cost_with
  have C_least_cost := cl_least_cost (P := P) (w := w) (base := base) D18 B C_all_costs
  have C_cheapest_groups := cl_cheapest_groups (P := P) (w := w) (base := base) D19 B C_all_costs
  have C_law_cell := cl_law_cell (P := P) (w := w) (base := base) D20 B
  have C_law_mixed := cl_law_mixed (P := P) (w := w) (base := base) D21
  have C_law_whole := cl_law_whole (P := P) (w := w) (base := base) D22 B
  have C_law_hands := cl_law_hands (P := P) (w := w) (base := base) D23 B
  have C_law_given := cl_law_given (P := P) (w := w) (base := base) D24 B
  have C_law_size := cl_law_size (P := P) (w := w) (base := base) D25
  have C_law_poured := cl_law_poured (P := P) (w := w) (base := base) D26 B C_law_mixed
  have C_law_row := cl_law_row (P := P) (w := w) (base := base) D27 B
  have C_law_tie_table := cl_law_tie_table (P := P) (w := w) (base := base) D28 B C_law_poured C_law_row C_law_given C_law_hands
  have C_law_noise_table := cl_law_noise_table (P := P) (w := w) (base := base) D29 B C_law_poured C_law_hands
  have C_law_falling := cl_law_falling (P := P) (w := w) (base := base) D30 B C_law_tie_table C_law_noise_table
  have C_law_numbers := cl_law_numbers (P := P) (w := w) (base := base) D31 B C_law_whole
  have C_law_is_under := cl_law_is_under (P := P) (w := w) (base := base) D32 B C_law_given
  have C_law_bound_row := cl_law_bound_row (P := P) (w := w) (base := base) D33 B C_law_poured C_law_mixed
  exact ok_law D34 B C_law_size C_law_cell C_law_falling C_law_bound_row C_law_given C_row_table C_parting C_least_cost C_cheapest_groups C_common C_law_is_under C_law_numbers
end Gc
open PySem PySem.W PySem.Calls PyProof.Rows
theorem PySem.Challenge.cw_groupcost_k56_whole_prices_as_a_table_holds : PySem.Challenge.rw_groupcost_k56_whole_prices_as_a_table.Holds := by
  w_on; o_law
  refine HandSHeadRun.head_any (r := OpenLaw.row PySem.Challenge.rw_groupcost_k56_whole_prices_as_a_table) (q := view (OpenLaw.row PySem.Challenge.rw_groupcost_k56_whole_prices_as_a_table).prog [45]) (H := Gc.hk) (ob := Gc.ob) (M := 6000) (loose := Gc.loose) (d := HandSHeadRun.topDef (OpenLaw.row PySem.Challenge.rw_groupcost_k56_whole_prices_as_a_table).prog 45) (kwd := []) Gc.ob_eq
    (by kernel_rfl) (fun s => by kernel_rfl) Gc.run (by kernel_rfl) (by kernel_rfl) (by kernel_rfl) (by rfl) (by first | assumption | decide +kernel) (by decide +kernel) ⟨rfl, rfl, rfl, rfl, rfl, by decide +kernel⟩ ?hw ?hc
  case hw => w_witness2
  case hc =>
    refine L2.walk_ofE (l := PySem.Challenge.rw_groupcost_k56_whole_prices_as_a_table) (n := 63) (k := 7) (x := "script") (CX := L2.CX0) rfl (by decide) (by kernel_rfl) ⟨rfl, by decide, by decide⟩ ?F (fun _ _ _ _ z => z)
    intro w mg fa h Y G hmg0
    obtain ⟨K, KX, c⟩ := Y
    have hmg : mg ("law" : PySem.Str) = some (.ref fa) := by
      have e : (HandSHeadRun.topDef (OpenLaw.row PySem.Challenge.rw_groupcost_k56_whole_prices_as_a_table).prog 45).name = ("law" : PySem.Str) := by kernel_rfl
      rw [← e]
      exact hmg0
    obtain ⟨fd, hb, hF⟩ := Gc.facts (P := (PySem.Challenge.rw_groupcost_k56_whole_prices_as_a_table).prog) (w := w) KX G hmg c
    exact ⟨K, fd, Gc.spLaw K, KX, hb, fun H a ns hl _ hS => ⟨a, ns, rfl, hS, hl, fun _ => rfl⟩, hF⟩
