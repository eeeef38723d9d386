import PyProof.Rows.All
import Wide.All
import OpenK.AllK
import Wide.FinOn
import PyProof.EqAt
import PyProof.EqKinds
import PyProof.TupleCall
import Open.SpecLaws
import KE.OsGo
import PySem.Challenge.RW_bitsways_s01_answers
import HandS.ForSpec
import HandS.Comp
import HandS.Iter
import HandS.Walk
import HandS.Text
import HandS.Conv
import HandS.ExcInit
import HandS.ExcField
import HandS.CallSlots
import HandS.Evl
set_option Elab.async false
set_option linter.all false
set_option maxRecDepth 100000
set_option maxHeartbeats 4000000
namespace Bw
open Krdk

/-! ### comprehensions by place -/
def cmp {α : Type} (n : Nat) (p : Nat → Bool) (g : Nat → α) : List α := ((List.range n).filter p).map g
theorem cmp_zero {α : Type} (p : Nat → Bool) (g : Nat → α) : cmp 0 p g = [] := rfl
theorem cmp_yes {α : Type} {n : Nat} {p : Nat → Bool} {g : Nat → α} (h : p n = true) : cmp (n + 1) p g = cmp n p g ++ [g n] := by
  unfold cmp
  rw [List.range_succ, List.filter_append, List.map_append]
  simp [h]
theorem cmp_no {α : Type} {n : Nat} {p : Nat → Bool} {g : Nat → α} (h : p n = false) : cmp (n + 1) p g = cmp n p g := by
  unfold cmp
  rw [List.range_succ, List.filter_append, List.map_append]
  simp [h]
theorem cmp_len {α : Type} (n : Nat) (p : Nat → Bool) (g : Nat → α) : (cmp n p g).length ≤ n := by
  unfold cmp
  rw [List.length_map]
  exact Nat.le_trans (List.length_filter_le _ _) (by simp)
theorem cmp_congr {α : Type} {n : Nat} {p p' : Nat → Bool} {g g' : Nat → α} (hp : ∀ i, i < n → p i = p' i) (hg : ∀ i, i < n → g i = g' i) : cmp n p g = cmp n p' g' := by
  unfold cmp
  have e : (List.range n).filter p = (List.range n).filter p' := List.filter_congr fun x hx => hp x (List.mem_range.mp hx)
  rw [e]
  refine List.map_congr_left fun x hx => hg x (List.mem_range.mp (List.mem_filter.mp hx).1)
theorem cmp_map {α β : Type} (n : Nat) (p : Nat → Bool) (g : Nat → α) (h : α → β) : cmp n p (fun i => h (g i)) = (cmp n p g).map h := by
  unfold cmp
  rw [List.map_map]
  rfl
theorem cmp_true {α : Type} (n : Nat) (g : Nat → α) : cmp n (fun _ => true) g = (List.range n).map g := by
  unfold cmp
  have e : (List.range n).filter (fun _ => true) = List.range n := List.filter_eq_self.mpr fun _ _ => rfl
  rw [e]
theorem cmp_list {α β : Type} (d : α) : ∀ (xs : List α) (p : α → Bool) (g : α → β), cmp xs.length (fun i => p (xs.getD i d)) (fun i => g (xs.getD i d)) = (xs.filter p).map g := by
  intro xs p g
  have e : xs = (List.range xs.length).map (fun i => xs.getD i d) := by
    refine List.ext_getElem (by simp) fun i h1 h2 => ?_
    simp [h1]
  conv => rhs; rw [e]
  rw [List.filter_map, List.map_map]
  rfl
theorem getD_range_map {α : Type} {n i : Nat} {g : Nat → α} {d : α} (h : i < n) : ((List.range n).map g).getD i d = g i := by
  simp [h]

/-! ### well made answers -/
structure Ok (f : Answer) : Prop where
  lo : 1 ≤ f.n
  hi : f.n ≤ 5
  len : f.t.length = 2 ^ f.n
theorem of_ok {n : Nat} (p : Nat → Bool) (h1 : 1 ≤ n) (h2 : n ≤ 5) : Ok (of n p) := ⟨h1, h2, by simp [of, words]⟩
theorem two_pos (n : Nat) : 0 < 2 ^ n := Nat.pow_pos (by decide)
theorem two_le {n : Nat} (h : n ≤ 5) : 2 ^ n ≤ 32 := Nat.pow_le_pow_right (by decide) h
theorem of_at {n x : Nat} {p : Nat → Bool} (h : x < 2 ^ n) : (of n p).at_ x = p x := by
  unfold of Answer.at_ words
  exact getD_range_map h
theorem of_congr {n : Nat} {p p' : Nat → Bool} (h : ∀ x, x < 2 ^ n → p x = p' x) : of n p = of n p' := by
  unfold of words
  congr 1
  exact List.map_congr_left fun x hx => h x (List.mem_range.mp hx)
def cnt (f : Answer) (i : Nat) : Nat := ((words f.n).filter (f.sways i)).length
theorem cnt_le (f : Answer) (i : Nat) : cnt f i ≤ 2 ^ f.n := by
  unfold cnt words
  exact Nat.le_trans (List.length_filter_le _ _) (by simp)
theorem yes_le (f : Answer) : f.yes ≤ 2 ^ f.n := by
  unfold Answer.yes words
  exact Nat.le_trans (List.length_filter_le _ _) (by simp)

/-! ### bits -/
def popF : Nat → Nat → Nat
  | 0, _ => 0
  | k + 1, x => x % 2 + popF k (x / 2)
def pop (x : Nat) : Nat := popF 6 x
theorem pop_step : ∀ x, x < 64 → pop x = x % 2 + pop (x / 2) := by decide +kernel
theorem pop_zero : pop 0 = 0 := by decide
theorem pop_le : ∀ x, x < 64 → pop x ≤ 6 := by decide +kernel
theorem meet_pop : ∀ n, n ≤ 5 → ∀ s, s < 2 ^ n → ∀ x, x < 2 ^ n → meet n s x = pop (x &&& s) := by
  intro n hn
  have h : ∀ n, n < 6 → ∀ s, s < 2 ^ n → ∀ x, x < 2 ^ n → meet n s x = pop (x &&& s) := by decide +kernel
  exact h n (by omega)
theorem bits_pop : ∀ n, n ≤ 5 → ∀ s, s < 2 ^ n → bits n s = pop s := by
  intro n hn
  have h : ∀ n, n < 6 → ∀ s, s < 2 ^ n → bits n s = pop s := by decide +kernel
  exact h n (by omega)
theorem flip_xor : ∀ i, i < 5 → ∀ x, x < 32 → x ^^^ (2 ^ i) = flip x i := by decide +kernel
theorem flip_lt {n i x : Nat} (hn : n ≤ 5) (hi : i < n) (hx : x < 2 ^ n) : flip x i < 2 ^ n := by
  rw [← flip_xor i (by omega) x (Nat.lt_of_lt_of_le hx (two_le hn))]
  exact Nat.xor_lt_two_pow hx (Nat.pow_lt_pow_right (by decide) hi)
def isOdd (x s : Nat) : Bool := decide (pop (x &&& s) % 2 = 1)

/-! ### fractions -/
theorem fr_eq (u : Int) {l : Nat} (h : 0 < l) : fr (mkRat u l) = [u / (Nat.gcd u.natAbs l : Nat), ((l / Nat.gcd u.natAbs l : Nat) : Int)] := by
  unfold fr
  rw [Rat.num_mkRat, Rat.den_mkRat, if_neg (by omega), if_neg (by omega), Nat.gcd_comm]
theorem fr_len (r : Rat) : (fr r).length = 2 := rfl
theorem rat_nat (a l : Nat) : (a : Rat) / (l : Rat) = mkRat (a : Int) l := by
  rw [Rat.mkRat_eq_div]
  rfl
theorem mkRat_add_same (a b : Int) {d : Nat} (h : d ≠ 0) : mkRat a d + mkRat b d = mkRat (a + b) d := by
  rw [Rat.mkRat_add_mkRat _ _ h h, ← Int.add_mul, Rat.mkRat_mul_right h]
theorem mean_eq (f : Answer) : f.mean = mkRat (f.yes : Int) (2 ^ f.n) := rat_nat _ _
theorem sway_eq (f : Answer) (i : Nat) : f.sway i = mkRat (cnt f i : Int) (2 ^ f.n) := rat_nat _ _
theorem sum_mkRat {d : Nat} (h : d ≠ 0) : ∀ (l : List Int) (a : Int), (l.map fun x => mkRat x d).foldl (· + ·) (mkRat a d) = mkRat (a + l.sum) d
  | [], a => by simp
  | x :: r, a => by
    rw [List.map_cons, List.foldl_cons, mkRat_add_same _ _ h, sum_mkRat h r, List.sum_cons, Int.add_assoc]
theorem sum0_mkRat {d : Nat} (h : d ≠ 0) (l : List Int) : Krdk.sum (l.map fun x => mkRat x d) = mkRat l.sum d := by
  unfold Krdk.sum
  have e : (0 : Rat) = mkRat 0 d := (Rat.zero_mkRat d).symm
  rw [e, sum_mkRat h, Int.zero_add]
theorem all_eq (f : Answer) : f.all = mkRat ((List.range f.n).map fun i => (cnt f i : Int)).sum (2 ^ f.n) := by
  unfold Answer.all
  have e : (List.range f.n).map f.sway = ((List.range f.n).map fun i => (cnt f i : Int)).map fun x => mkRat x (2 ^ f.n) := by
    rw [List.map_map]
    exact List.map_congr_left fun i _ => sway_eq f i
  rw [e, sum0_mkRat (Nat.ne_of_gt (two_pos _))]
theorem even_eq (f : Answer) : f.even_ = mkRat (4 * (f.yes : Int) * ((2 ^ f.n : Nat) - (f.yes : Int))) (2 ^ f.n * 2 ^ f.n) := by
  unfold Answer.even_
  have hd : (2 ^ f.n : Nat) ≠ 0 := Nat.ne_of_gt (two_pos _)
  rw [mean_eq]
  generalize 2 ^ f.n = d at hd
  have h1 : (1 : Rat) = mkRat (d : Int) d := by
    have z := Rat.mkRat_mul_right (n := 1) (d := 1) hd
    rw [Int.one_mul, Nat.one_mul] at z
    rw [z]
    rfl
  have h4 : (4 : Rat) = mkRat 4 1 := by rfl
  rw [h1, Rat.sub_eq_add_neg, Rat.neg_mkRat, mkRat_add_same _ _ hd, h4, Rat.mkRat_mul_mkRat, Rat.mkRat_mul_mkRat, Nat.one_mul, ← Int.sub_eq_add_neg]
/-- a set's part, times the words -/
def hits (f : Answer) (s : Nat) : Nat := ((words f.n).filter fun x => isOdd x s == f.at_ x).length
def sumFor (f : Answer) (s : Nat) : Int := 2 * (hits f s : Int) - (2 ^ f.n : Nat)
theorem signs_sum (g : Nat → Bool) : ∀ (l : List Nat) (a : Int), (l.map fun x => if g x = true then (1 : Int) else -1).foldl (· + ·) a = a + (2 * ((l.filter g).length : Int) - l.length)
  | [], a => by simp
  | x :: r, a => by
    rw [List.map_cons, List.foldl_cons, signs_sum g r]
    by_cases h : g x = true
    · rw [if_pos h, List.filter_cons_of_pos h, List.length_cons, List.length_cons]
      omega
    · rw [if_neg h, List.filter_cons_of_neg h, List.length_cons]
      omega
theorem part_eq {f : Answer} (o : Ok f) {s : Nat} (hs : s < 2 ^ f.n) : f.part s = mkRat (sumFor f s) (2 ^ f.n) := by
  unfold Answer.part
  rw [Rat.mkRat_eq_div]
  have e : ((words f.n).map fun x => if meet f.n s x % 2 = 0 then f.sign x else -f.sign x) = (words f.n).map fun x => if (isOdd x s == f.at_ x) = true then (1 : Int) else -1 := by
    refine List.map_congr_left fun x hx => ?_
    rw [meet_pop f.n o.hi s hs x (List.mem_range.mp hx)]
    unfold isOdd Answer.sign
    have h2 : pop (x &&& s) % 2 = 0 ∨ pop (x &&& s) % 2 = 1 := by omega
    rcases h2 with h2 | h2 <;> cases f.at_ x <;> simp [h2]
  rw [e, signs_sum, Int.zero_add]
  unfold sumFor hits words
  rw [List.length_range]
theorem level_eq {f : Answer} (o : Ok f) (k : Nat) : f.level k = mkRat (cmp (2 ^ f.n) (fun s => pop s == k) (fun s => sumFor f s * sumFor f s)).sum (2 ^ f.n * 2 ^ f.n) := by
  unfold Answer.level
  have hd : (2 ^ f.n * 2 ^ f.n : Nat) ≠ 0 := Nat.ne_of_gt (Nat.mul_pos (two_pos _) (two_pos _))
  rw [← sum0_mkRat hd]
  congr 1
  unfold cmp
  have e : (words f.n).filter (fun s => bits f.n s == k) = (List.range (2 ^ f.n)).filter fun s => pop s == k :=
    List.filter_congr fun s hs => by rw [bits_pop f.n o.hi s (List.mem_range.mp hs)]
  rw [e, List.map_map]
  refine List.map_congr_left fun s hs => ?_
  have hs' : s < 2 ^ f.n := List.mem_range.mp (List.mem_filter.mp hs).1
  rw [part_eq o hs', Rat.mkRat_mul_mkRat]
  rfl
theorem part_zero {f : Answer} (o : Ok f) {s : Nat} (hs : s < 2 ^ f.n) : (f.part s != 0) = !decide (sumFor f s = 0) := by
  rw [part_eq o hs]
  have z := Rat.mkRat_eq_zero (n := sumFor f s) (Nat.ne_of_gt (two_pos f.n))
  by_cases h : sumFor f s = 0
  · have z' := z.mpr h
    rw [z', decide_eq_true h]
    decide
  · have z' : mkRat (sumFor f s) (2 ^ f.n) ≠ 0 := fun e => h (z.mp e)
    rw [decide_eq_false h]
    simp [z']
theorem sway_zero (f : Answer) (i : Nat) : (f.sway i == 0) = decide ((cnt f i : Int) = 0) := by
  rw [sway_eq]
  have z := Rat.mkRat_eq_zero (n := (cnt f i : Int)) (Nat.ne_of_gt (two_pos f.n))
  by_cases h : (cnt f i : Int) = 0
  · have z' := z.mpr h
    rw [z', decide_eq_true h]
    decide
  · have z' : mkRat (cnt f i : Int) (2 ^ f.n) ≠ 0 := fun e => h (z.mp e)
    rw [decide_eq_false h]
    simp [z']
theorem sway_lt (f : Answer) (i j : Nat) : f.sway i < f.sway j ↔ cnt f i < cnt f j := by
  unfold Answer.sway
  have hp : (0 : Rat) < ((2 ^ f.n : Nat) : Rat) := Rat.natCast_pos.mpr (two_pos _)
  have hne : ((2 ^ f.n : Nat) : Rat) ≠ 0 := Rat.ne_of_gt hp
  rw [Rat.div_lt_iff hp, Rat.div_mul_cancel hne, Rat.natCast_lt_natCast]
  rfl
theorem sides_eq (f : Answer) : f.sides = ((List.range f.n).map (cnt f)).sum / 2 := by
  unfold Answer.sides cnt
  rw [List.sum_eq_foldl]
theorem sides_int (f : Answer) : (((List.range f.n).map fun i => (cnt f i : Int)).sum).fdiv 2 = (f.sides : Int) := by
  rw [sides_eq]
  have e : ∀ l : List Nat, (l.map fun i => (cnt f i : Int)).sum = (((l.map (cnt f)).sum : Nat) : Int) := by
    intro l
    induction l with
    | nil => rfl
    | cons x r ih => simp [ih]
  rw [e, Int.fdiv_eq_ediv_of_nonneg _ (by decide)]
  omega

/-! ### most -/
/-- the first of the greatest -/
structure Top (c : Nat → Nat) (n b : Nat) : Prop where
  lt : b < n
  ge : ∀ i, i < n → c i ≤ c b
  first : ∀ i, i < b → c i < c b
theorem most_fold (c : Nat → Nat) : ∀ m, Top c (m + 1) ((List.range (m + 1)).foldl (fun b i => if c b < c i then i else b) 0)
  | 0 => ⟨by simp [List.range_succ], fun i hi => by
      have e : i = 0 := by omega
      subst e
      simp [List.range_succ], fun i hi => by simp [List.range_succ] at hi⟩
  | m + 1 => by
    have ih := most_fold c m
    rw [List.range_succ, List.foldl_append]
    generalize (List.range (m + 1)).foldl (fun b i => if c b < c i then i else b) 0 = b at ih
    show Top c (m + 1 + 1) (if c b < c (m + 1) then m + 1 else b)
    by_cases h : c b < c (m + 1)
    · rw [if_pos h]
      refine ⟨by omega, fun i hi => ?_, fun i hi => Nat.lt_of_le_of_lt (ih.ge i hi) h⟩
      by_cases e : i = m + 1
      · subst e
        exact Nat.le_refl _
      · exact Nat.le_trans (ih.ge i (by omega)) (Nat.le_of_lt h)
    · rw [if_neg h]
      refine ⟨Nat.lt_succ_of_lt ih.lt, fun i hi => ?_, ih.first⟩
      by_cases e : i = m + 1
      · subst e
        exact Nat.le_of_not_lt h
      · exact ih.ge i (by omega)
theorem top_unique {c : Nat → Nat} {n a b : Nat} (x : Top c n a) (y : Top c n b) : a = b := by
  rcases Nat.lt_trichotomy a b with h | h | h
  · have z := y.first a h
    have z2 := x.ge b y.lt
    omega
  · exact h
  · have z := x.first b h
    have z2 := y.ge a x.lt
    omega
def best (f : Answer) : Nat := (List.range f.n).foldl (fun (b : Nat) i => if f.sway b < f.sway i then i else b) 0
theorem best_top {f : Answer} (o : Ok f) : Top (cnt f) f.n (best f) := by
  unfold best
  obtain ⟨m, hm⟩ : ∃ m, f.n = m + 1 := ⟨f.n - 1, by have := o.lo; omega⟩
  rw [hm]
  have e : (fun (b : Nat) i => if f.sway b < f.sway i then i else b) = fun b i => if cnt f b < cnt f i then i else b := by
    funext b i
    have z := sway_lt f b i
    by_cases h : cnt f b < cnt f i
    · rw [if_pos h, if_pos (z.mpr h)]
    · rw [if_neg h, if_neg (fun q => h (z.mp q))]
  rw [e]
  exact most_fold (cnt f) m

/-! ### rising -/
theorem rising_eq {f : Answer} (o : Ok f) : f.rising = (List.range f.n).all fun i => (((words f.n).filter f.at_).filter fun x => !x.testBit i).all fun x => f.at_ (flip x i) := by
  unfold Answer.rising
  rw [Bool.eq_iff_iff]
  simp only [List.all_eq_true, List.mem_filter, Bool.not_eq_true', Bool.or_eq_true, Bool.not_eq_eq_eq_not, Bool.not_true]
  constructor
  · intro h i hi x ⟨⟨hx, ha⟩, hb⟩
    rcases h x hx i hi with (z | z) | z
    · rw [hb] at z
      cases z
    · rw [ha] at z
      cases z
    · exact z
  · intro h x hx i hi
    cases hb : x.testBit i with
    | true => exact .inl (.inl rfl)
    | false =>
      cases ha : f.at_ x with
      | false => exact .inl (.inr rfl)
      | true => exact .inr (h i hi x ⟨⟨hx, ha⟩, hb⟩)

/-! ### weights -/
theorem foldl_add_get (l : List Nat) : ∀ (is : List Nat) (a : Nat), is.foldl (fun t i => t + l.getD i 0) a = a + (is.map fun i => l.getD i 0).sum
  | [], a => by simp
  | i :: r, a => by
    rw [List.foldl_cons, foldl_add_get l r, List.map_cons, List.sum_cons, Nat.add_assoc]
theorem weigh_eq (n : Nat) (l : List Nat) (x : Nat) : weigh n l x = (cmp n (fun i => x.testBit i) (fun i => l.getD i 0)).sum := by
  unfold weigh cmp
  rw [foldl_add_get, Nat.zero_add]
theorem sum_cast : ∀ l : List Nat, (l.map fun (x : Nat) => (x : Int)).sum = ((l.sum : Nat) : Int)
  | [] => rfl
  | x :: r => by simp [sum_cast r]
end Bw
namespace Bw
/-! ### the calls one behind another -/
def zs (l : List Nat) : List Int := l.map fun (x : Nat) => (x : Int)
/-- a call by its number, its numbers and its list -/
def callOf (c : Nat) (ns rs : List Nat) : Krdk.Call := match c with
  | 0 => .begin_ (ns.getD 0 0)
  | 1 => .told rs
  | 2 => .least (ns.getD 0 0) rs
  | 3 => .odd (ns.getD 0 0)
  | 4 => .bit (ns.getD 0 0)
  | 5 => .not_
  | 6 => .turn (ns.getD 0 0)
  | 7 => .set (ns.getD 0 0) (ns.getD 1 0)
  | 8 => .ask (ns.getD 0 0)
  | 9 => .mean
  | 10 => .sway (ns.getD 0 0)
  | 11 => .all
  | 12 => .even
  | 13 => .part (ns.getD 0 0)
  | 14 => .parts
  | 15 => .levels
  | 16 => .sides
  | 17 => .fewest
  | 18 => .rising
  | 19 => .idle
  | 20 => .most
  | _ => .state
def numbers : List Nat := [1, 0, 1, 1, 1, 0, 1, 2, 1, 0, 1, 0, 0, 1, 0, 0, 0, 0, 0, 0, 0, 0]
def numsOf (c : Nat) : Nat := numbers.getD c 0
def withList (c : Nat) : Bool := c == 1 || c == 2
theorem shape_in : ∀ c : Nat, c < 22 → PyKrdk.shape (c : Int) = some (numsOf c, if withList c then 1 else 0) := by decide +kernel
theorem shape_out {c : Nat} (h : 22 ≤ c) : PyKrdk.shape (c : Int) = none := by
  unfold PyKrdk.shape
  repeat rw [if_neg (by omega)]
theorem whole_id (c : List (List Int)) : PyKrdk.whole c = c := by
  unfold PyKrdk.whole
  split <;> rfl
theorem zs_getD (l : List Nat) (i : Nat) : (zs l).getD i 0 = ((l.getD i 0 : Nat) : Int) := by
  unfold zs
  rw [List.getD_eq_getElem?_getD, List.getD_eq_getElem?_getD, List.getElem?_map]
  cases l[i]? <;> rfl
theorem zs_nat (l : List Nat) : (zs l).map Int.toNat = l := by
  unfold zs
  rw [List.map_map]
  have e : (Int.toNat ∘ fun (x : Nat) => (x : Int)) = id := funext fun x => Int.toNat_natCast x
  rw [e, List.map_id]
theorem call_is {c : Nat} (hc : c < 22) (ns rs : List Nat) (rows : List (List Int)) (hr : rows.getD 0 [] = zs rs) : KrdkNeutral.call (((c : Int) :: zs ns) :: rows) = callOf c ns rs := by
  have e0 : KrdkNeutral.n (((c : Int) :: zs ns) :: rows) 0 = c := Int.toNat_natCast c
  have e1 : KrdkNeutral.n (((c : Int) :: zs ns) :: rows) 1 = ns.getD 0 0 := by
    show ((zs ns).getD 0 0).toNat = _
    rw [zs_getD, Int.toNat_natCast]
  have e2 : KrdkNeutral.n (((c : Int) :: zs ns) :: rows) 2 = ns.getD 1 0 := by
    show ((zs ns).getD 1 0).toNat = _
    rw [zs_getD, Int.toNat_natCast]
  have em : KrdkNeutral.m (((c : Int) :: zs ns) :: rows) 1 = rs := by
    show (rows.getD 0 []).map Int.toNat = _
    rw [hr, zs_nat]
  unfold KrdkNeutral.call
  rw [e0, e1, e2, em]
  rfl
/-- one call taken off -/
structure Step (L : List Nat) (k c : Nat) (ns rs : List Nat) (k' : Nat) : Prop where
  at_ : L[k]? = some c
  lt : c < 22
  ns_ : ns = (L.drop (k + 1)).take (numsOf c)
  len : ns.length = numsOf c
  no : withList c = false → rs = [] ∧ k' = k + 1 + numsOf c
  yes : withList c = true → ∃ m, L[k + 1 + numsOf c]? = some m ∧ rs = (L.drop (k + 1 + numsOf c + 1)).take m ∧ rs.length = m ∧ k' = k + 1 + numsOf c + 1 + m
  up : k < k'
  le : k' ≤ L.length
theorem zs_drop (L : List Nat) (k : Nat) : (zs L).drop k = zs (L.drop k) := by
  unfold zs
  rw [List.map_drop]
theorem zs_take (L : List Nat) (k : Nat) : (zs L).take k = zs (L.take k) := by
  unfold zs
  rw [List.map_take]
theorem zs_len (L : List Nat) : (zs L).length = L.length := by
  unfold zs
  rw [List.length_map]
theorem drop_cons {α : Type} {L : List α} {k : Nat} {x : α} {r : List α} (h : L.drop k = x :: r) : L[k]? = some x ∧ r = L.drop (k + 1) ∧ k < L.length := by
  have h1 : (L.drop k)[0]? = some x := by rw [h]; rfl
  rw [List.getElem?_drop, Nat.add_zero] at h1
  refine ⟨h1, ?_, (List.getElem?_eq_some_iff.mp h1).1⟩
  have h2 : (L.drop k).drop 1 = r := by rw [h]; rfl
  rw [← h2, List.drop_drop]
theorem parse_step {L : List Nat} {f k : Nat} {c : List (List Int)} {cs : List (List (List Int))} (h : PyFlat.calls PyKrdk.shape f (zs (L.drop k)) = some (c :: cs)) :
    ∃ p ns rs k' f', Step L k p ns rs k' ∧ KrdkNeutral.call c = callOf p ns rs ∧ PyFlat.calls PyKrdk.shape f' (zs (L.drop k')) = some cs ∧ (withList p = true → c = [(p : Int) :: zs ns, zs rs]) := by
  cases hd : L.drop k with
  | nil =>
    rw [hd] at h
    cases f <;> cases h
  | cons p r =>
    obtain ⟨h1, h2, h3⟩ := drop_cons hd
    rw [hd] at h
    cases f with
    | zero => cases h
    | succ f =>
      have hz : zs (p :: r) = (p : Int) :: zs r := rfl
      rw [hz, PyFlat.calls] at h
      cases hc : PyFlat.call PyKrdk.shape ((p : Int) :: zs r) with
      | none =>
        rw [hc] at h
        cases h
      | some ct =>
        obtain ⟨c', t⟩ := ct
        rw [hc] at h
        cases hcs : PyFlat.calls PyKrdk.shape f t with
        | none =>
          simp only [hcs] at h
          cases h
        | some cs' =>
          simp only [hcs] at h
          obtain ⟨rfl, rfl⟩ : c' = c ∧ cs' = cs := by
            have z := Option.some.inj h
            exact ⟨(List.cons.inj z).1, (List.cons.inj z).2⟩
          by_cases hp : p < 22
          · rw [PyFlat.call, shape_in p hp] at hc
            simp only at hc
            by_cases hl : (zs r).length < numsOf p
            · rw [if_pos hl] at hc
              cases hc
            · rw [if_neg hl] at hc
              rw [zs_len] at hl
              have hns : (r.take (numsOf p)).length = numsOf p := by rw [List.length_take]; omega
              have hrl : r.length = L.length - (k + 1) := by rw [h2, List.length_drop]
              cases hw : withList p with
              | false =>
                rw [hw] at hc
                simp only [Bool.false_eq_true, if_false, PyFlat.rows] at hc
                obtain ⟨rfl, rfl⟩ : ((p : Int) :: (zs r).take (numsOf p)) :: [] = c' ∧ (zs r).drop (numsOf p) = t := by
                  have z := Option.some.inj hc
                  exact ⟨(Prod.mk.inj z).1, (Prod.mk.inj z).2⟩
                refine ⟨p, r.take (numsOf p), [], k + 1 + numsOf p, f, ⟨h1, hp, by rw [h2], hns, fun _ => ⟨rfl, rfl⟩, (fun z => by cases hw.symm.trans z), by omega, by omega⟩, ?_, ?_, (fun z => by cases hw.symm.trans z)⟩
                · rw [zs_take]
                  exact call_is hp _ [] [] rfl
                · rw [zs_drop, h2, List.drop_drop] at hcs
                  exact hcs
              | true =>
                rw [hw] at hc
                simp only [if_true] at hc
                rw [PyFlat.rows] at hc
                cases hd2 : r.drop (numsOf p) with
                | nil =>
                  rw [zs_drop, hd2] at hc
                  cases hc
                | cons m r' =>
                  rw [zs_drop, hd2] at hc
                  have h4 : L.drop (k + 1 + numsOf p) = m :: r' := by rw [← hd2, h2, List.drop_drop]
                  obtain ⟨h5, h6, h7⟩ := drop_cons h4
                  have hz2 : zs (m :: r') = (m : Int) :: zs r' := rfl
                  rw [hz2, PyFlat.row] at hc
                  by_cases hm : (0 : Int) ≤ (m : Int) ∧ ((m : Int)).toNat ≤ (zs r').length
                  · rw [if_pos hm] at hc
                    simp only [PyFlat.rows] at hc
                    rw [Int.toNat_natCast, zs_len] at hm
                    rw [Int.toNat_natCast] at hc
                    obtain ⟨rfl, rfl⟩ : ((p : Int) :: (zs r).take (numsOf p)) :: [(zs r').take m] = c' ∧ (zs r').drop m = t := by
                      have z := Option.some.inj hc
                      exact ⟨(Prod.mk.inj z).1, (Prod.mk.inj z).2⟩
                    have hrl2 : r'.length = L.length - (k + 1 + numsOf p + 1) := by rw [h6, List.length_drop]
                    refine ⟨p, r.take (numsOf p), r'.take m, k + 1 + numsOf p + 1 + m, f, ⟨h1, hp, by rw [h2], hns, (fun z => by cases hw.symm.trans z), fun _ => ⟨m, h5, by rw [h6], by rw [List.length_take]; omega, rfl⟩, by omega, by omega⟩, ?_, ?_, fun _ => ?_⟩
                    · rw [zs_take, zs_take]
                      exact call_is hp _ (r'.take m) [zs (r'.take m)] rfl
                    · rw [zs_drop, h6, List.drop_drop] at hcs
                      exact hcs
                    · rw [zs_take, zs_take]
                  · rw [if_neg hm] at hc
                    cases hc
          · rw [PyFlat.call, shape_out (by omega)] at hc
            cases hc
theorem parse_nil {L : List Nat} {f k : Nat} (h : PyFlat.calls PyKrdk.shape f (zs (L.drop k)) = some []) : L.length ≤ k := by
  cases hd : L.drop k with
  | nil => exact List.drop_eq_nil_iff.mp hd
  | cons p r =>
    rw [hd] at h
    cases f with
    | zero => cases h
    | succ f =>
      have hz : zs (p :: r) = (p : Int) :: zs r := rfl
      rw [hz, PyFlat.calls] at h
      cases hc : PyFlat.call PyKrdk.shape ((p : Int) :: zs r) with
      | none =>
        rw [hc] at h
        cases h
      | some ct =>
        obtain ⟨c', t⟩ := ct
        rw [hc] at h
        cases hcs : PyFlat.calls PyKrdk.shape f t with
        | none =>
          simp only [hcs] at h
          cases h
        | some cs' =>
          simp only [hcs] at h
          cases h
/-- what is refused changes nothing, and is its number alone -/
theorem no_put {b : Bool} {x g : Krdk.Abs} {r : Int} {m : Nat} (h : (if b = true then ((x, Krdk.say r) : Krdk.Abs × Krdk.Ans) else (g, Krdk.nat m)).2.num < 0) :
    (if b = true then ((x, Krdk.say r) : Krdk.Abs × Krdk.Ans) else (g, Krdk.nat m)).1 = x ∧ (if b = true then ((x, Krdk.say r) : Krdk.Abs × Krdk.Ans) else (g, Krdk.nat m)).2.nums = [] := by
  cases b with
  | true => exact ⟨rfl, rfl⟩
  | false => exact absurd h (by show ¬ ((m : Int) < 0); omega)
theorem no_say {b : Bool} {x g : Krdk.Abs} {r : Int} (h : (if b = true then ((x, Krdk.say r) : Krdk.Abs × Krdk.Ans) else (g, Krdk.say 0)).2.num < 0) :
    (if b = true then ((x, Krdk.say r) : Krdk.Abs × Krdk.Ans) else (g, Krdk.say 0)).1 = x ∧ (if b = true then ((x, Krdk.say r) : Krdk.Abs × Krdk.Ans) else (g, Krdk.say 0)).2.nums = [] := by
  cases b with
  | true => exact ⟨rfl, rfl⟩
  | false => exact absurd h (by show ¬ ((0 : Int) < 0); decide)
theorem no_frac {b : Bool} {x : Krdk.Abs} {r : Int} {q : Rat} (h : (if b = true then Krdk.say r else Krdk.frac q).num < 0) : x = x ∧ (if b = true then Krdk.say r else Krdk.frac q).nums = [] := by
  cases b with
  | true => exact ⟨rfl, rfl⟩
  | false => exact absurd h (by show ¬ ((0 : Int) < 0); decide)
theorem no_ask {b : Bool} {x : Krdk.Abs} {r : Int} {q : Bool} (h : (if b = true then Krdk.say r else Krdk.ask q).num < 0) : x = x ∧ (if b = true then Krdk.say r else Krdk.ask q).nums = [] := by
  cases b with
  | true => exact ⟨rfl, rfl⟩
  | false => exact ⟨rfl, rfl⟩
theorem act_no (x : Krdk.Abs) (c : Krdk.Call) (h : (Krdk.act x c).2.num < 0) : (Krdk.act x c).1 = x ∧ (Krdk.act x c).2.nums = [] := by
  cases x with
  | none => cases c <;> first | exact no_say h | exact ⟨rfl, rfl⟩
  | some f =>
    cases c with
    | begin_ n => exact no_say h
    | told l => exact no_put h
    | least q l => exact no_put h
    | odd s => exact no_put h
    | bit i => exact no_put h
    | not_ => exact absurd h (by show ¬ ((_ : Int) < 0); exact Int.not_lt.mpr (Int.natCast_nonneg _))
    | turn i => exact no_put h
    | set x b => exact no_put h
    | ask x => exact no_ask h
    | mean => exact absurd h (by show ¬ ((0 : Int) < 0); decide)
    | sway i => exact no_frac h
    | all => exact absurd h (by show ¬ ((0 : Int) < 0); decide)
    | even => exact absurd h (by show ¬ ((0 : Int) < 0); decide)
    | part s => exact no_frac h
    | parts => exact absurd h (Int.not_lt.mpr (Int.natCast_nonneg _))
    | levels => exact absurd h (by show ¬ ((f.n : Int) + 1 < 0); omega)
    | sides => exact absurd h (Int.not_lt.mpr (Int.natCast_nonneg _))
    | fewest => exact absurd h (Int.not_lt.mpr (Int.natCast_nonneg _))
    | rising => exact ⟨rfl, rfl⟩
    | idle => exact absurd h (Int.not_lt.mpr (Int.natCast_nonneg _))
    | most => exact absurd h (Int.not_lt.mpr (Int.natCast_nonneg _))
    | state => exact absurd h (Int.not_lt.mpr (Int.natCast_nonneg _))
theorem act_none {c : Nat} (h0 : c ≠ 0) (h : c < 22) (ns rs : List Nat) : Krdk.act none (callOf c ns rs) = (none, Krdk.say (-11)) := by
  have h' : c = 1 ∨ c = 2 ∨ c = 3 ∨ c = 4 ∨ c = 5 ∨ c = 6 ∨ c = 7 ∨ c = 8 ∨ c = 9 ∨ c = 10 ∨ c = 11 ∨ c = 12 ∨ c = 13 ∨ c = 14 ∨ c = 15 ∨ c = 16 ∨ c = 17 ∨ c = 18 ∨ c = 19 ∨ c = 20 ∨ c = 21 := by omega
  rcases h' with rfl | rfl | rfl | rfl | rfl | rfl | rfl | rfl | rfl | rfl | rfl | rfl | rfl | rfl | rfl | rfl | rfl | rfl | rfl | rfl | rfl <;> rfl
end Bw
namespace Bw
open PySem PySem.Spec PyProof.Rows L2 Evl

/-! ### the defs as they stand, and as they are called -/
/-- the module's name x is the def st -/
def GDef (K : PySem.W.Frag) (mg : Str → Option Value) (x : Str) (st : Stmt) (ps : List Str) : Prop :=
  ∃ f fd, Fun K x x st f fd ∧ Binds K fd ps [] ∧ mg x = some (.ref f)
/-- the class at C has the method x, the def st -/
def MDef (K : PySem.W.Frag) (C : Addr) (x qual : Str) (st : Stmt) (ps : List Str) : Prop :=
  ∃ f fd, Fun K x qual st f fd ∧ Binds K fd ps [] ∧ Meth K C x f
def GOk (P : Program) (w : World) (K : PySem.W.Frag) (mg : Str → Option Value) (base : Heap) (CX : CXT) (k : Nat) (x : Str) (ps : List Str) (sp : Sp) : Prop :=
  ∃ f fd, mg x = some (.ref f) ∧ PySem.W.keepIn K (.ref f) = true ∧ Binds K fd ps [] ∧ FnOk P w K mg base CX k f fd ps sp
def MOk (P : Program) (w : World) (K : PySem.W.Frag) (mg : Str → Option Value) (base : Heap) (CX : CXT) (k : Nat) (C : Addr) (x : Str) (ps : List Str) (sp : Sp) : Prop :=
  ∃ f fd, Meth K C x f ∧ Binds K fd ps [] ∧ FnOk P w K mg base CX k f fd ps sp
section
variable {P : Program} {w : World} {K : PySem.W.Frag} {mg : Str → Option Value} {base : Heap}
theorem GDef.ok {x : Str} {st : Stmt} {N ps : List Str} {k : Nat} {sp : Sp} (D : GDef K mg x st ps) (S : FnScope N ps (defScope st)) (len : ∀ vs H Q E, sp vs H Q E → vs.length = ps.length)
    (hbody : ∀ (f : Addr) (cdv : Value) (A : Around) (outer : List Env) (s : Shared) (H : Hp) (vs : List V) (Q : VK) (E : XK), Room k (A.deeper (envOfC x (defScope st) s.heap.objs.size f cdv)) → sp vs H Q E →
      ∃ t, PSs (cxOf CX0 P w K mg base N x (defScope st) f cdv A outer s H E).nox (defBody st) t ∧ t { nx := fun _ H' => Q .non H', rt := Q } (L2.start N vs) H) : GOk P w K mg base CX0 (k + 1) x ps sp := by
  obtain ⟨f, fd, F, b, g⟩ := D
  exact ⟨f, fd, g, F.kp, b, F.ok S len (hbody f)⟩
theorem GDef.okX {x : Str} {st : Stmt} {N ps : List Str} {k : Nat} {sp : Sp} (D : GDef K mg x st ps) (S : FnScope N ps (defScope st)) (len : ∀ vs H Q E, sp vs H Q E → vs.length = ps.length)
    (hbody : ∀ (f : Addr) (cdv : Value) (A : Around) (outer : List Env) (s : Shared) (H : Hp) (vs : List V) (Q : VK) (E : XK), Room k (A.deeper (envOfC x (defScope st) s.heap.objs.size f cdv)) → sp vs H Q E →
      ∃ t, PSs (cxOf (L2.CX P w) P w K mg base N x (defScope st) f cdv A outer s H E) (defBody st) t ∧ t { nx := fun _ H' => Q .non H', rt := Q } (L2.start N vs) H) : GOk P w K mg base (L2.CX P w) (k + 1) x ps sp := by
  obtain ⟨f, fd, F, b, g⟩ := D
  exact ⟨f, fd, g, F.kp, b, F.okX S len (hbody f)⟩
theorem MDef.ok {C : Addr} {x qual : Str} {st : Stmt} {N ps : List Str} {k : Nat} {sp : Sp} (D : MDef K C x qual st ps) (S : FnScope N ps (defScope st)) (len : ∀ vs H Q E, sp vs H Q E → vs.length = ps.length)
    (hbody : ∀ (f : Addr) (cdv : Value) (A : Around) (outer : List Env) (s : Shared) (H : Hp) (vs : List V) (Q : VK) (E : XK), Room k (A.deeper (envOfC qual (defScope st) s.heap.objs.size f cdv)) → sp vs H Q E →
      ∃ t, PSs (cxOf CX0 P w K mg base N qual (defScope st) f cdv A outer s H E).nox (defBody st) t ∧ t { nx := fun _ H' => Q .non H', rt := Q } (L2.start N vs) H) : MOk P w K mg base CX0 (k + 1) C x ps sp := by
  obtain ⟨f, fd, F, b, m⟩ := D
  exact ⟨f, fd, m, b, F.ok S len (hbody f)⟩
theorem MDef.okX {C : Addr} {x qual : Str} {st : Stmt} {N ps : List Str} {k : Nat} {sp : Sp} (D : MDef K C x qual st ps) (S : FnScope N ps (defScope st)) (len : ∀ vs H Q E, sp vs H Q E → vs.length = ps.length)
    (hbody : ∀ (f : Addr) (cdv : Value) (A : Around) (outer : List Env) (s : Shared) (H : Hp) (vs : List V) (Q : VK) (E : XK), Room k (A.deeper (envOfC qual (defScope st) s.heap.objs.size f cdv)) → sp vs H Q E →
      ∃ t, PSs (cxOf (L2.CX P w) P w K mg base N qual (defScope st) f cdv A outer s H E) (defBody st) t ∧ t { nx := fun _ H' => Q .non H', rt := Q } (L2.start N vs) H) : MOk P w K mg base (L2.CX P w) (k + 1) C x ps sp := by
  obtain ⟨f, fd, F, b, m⟩ := D
  exact ⟨f, fd, m, b, F.okX S len (hbody f)⟩
theorem GOk.up {CX : CXT} {j k : Nat} {x : Str} {ps : List Str} {sp : Sp} (h : GOk P w K mg base CX j x ps sp) (l : j ≤ k) : GOk P w K mg base CX k x ps sp := by
  obtain ⟨f, fd, g, kp, b, F⟩ := h
  exact ⟨f, fd, g, kp, b, F.mono l⟩
end
section
variable {X : Cx} {CX : CXT} {k : Nat} {C : Addr} {ps : List Str} {sp : Sp} {E : XK} {x m : Str} {p pos apos : Pos} {e o : Expr} {es : List Expr} {ta : TE} {t : TA}
theorem pG (G : GOk X.prog X.w X.K X.mg X.base CX k x ps sp) (hr : Room k X.A) (hg : Gl X x) (hx : Passes CX X E) (ha : PA X (e :: es) t) (hdb : (x == ("__debug__" : Str)) = false := by decide)
    (he : starEach (e :: es) X.env = (false, eval e X.env) :: starEach es X.env := by rfl) (hpl : (backTo pos (starEach es X.env)).any (·.1) = false := by rfl) :
    PE X (.Call (.Name x p) (e :: es) [] pos) (tCall sp [] E t) := by
  obtain ⟨f, fd, g, kp, b, F⟩ := G
  exact pe_call F hr hg g kp b .nil hx ha hdb he hpl

theorem pM {pl : Sem Bool} (G : MOk X.prog X.w X.K X.mg X.base CX k C m ps sp) (c : Cls X.K C) (hr : Room k X.A) (hx : Passes CX X E) (he : PE X o ta) (ha : PA X (e :: es) t)
    (hst : starEach (e :: es) X.env = (false, eval e X.env) :: starEach es X.env := by rfl) (hpl : (backTo pos (starEach es X.env)).any (·.1) = false := by rfl)
    (ht : eval (.Call (.Attribute o m apos) (e :: es) [] pos) X.env = (do
      let ov ← eval o X.env
      standAt apos.atName
      let (f, first) ← holding [ov] (getMethod ov m pl)
      callWith pos f first (backTo pos (starEach (e :: es) X.env)) (backToKw pos (keywordEach [] X.env))) := by rfl) :
    PE X (.Call (.Attribute o m apos) (e :: es) [] pos) (tMeth C m sp [] E ta t) := by
  obtain ⟨f, fd, hm, b, F⟩ := G
  exact pe_meth he c hm F hr b .nil hx ha hst hpl ht
theorem pM0 {pl : Sem Bool} (G : MOk X.prog X.w X.K X.mg X.base CX k C m ps sp) (c : Cls X.K C) (hr : Room k X.A) (hx : Passes CX X E) (he : PE X o ta)
    (ht : eval (.Call (.Attribute o m apos) [] [] pos) X.env = (do
      let ov ← eval o X.env
      standAt apos.atName
      let (f, first) ← holding [ov] (getMethod ov m pl)
      callWith pos f first (backTo pos (starEach [] X.env)) (backToKw pos (keywordEach [] X.env))) := by rfl) :
    PE X (.Call (.Attribute o m apos) [] [] pos) (tMeth C m sp [] E ta tNil) := by
  obtain ⟨f, fd, hm, b, F⟩ := G
  exact pe_meth0 he c hm F hr b .nil hx ht
/-- within a try -/
theorem pGS {E : L2.St → XK} (G : GOk X.prog X.w X.K X.mg X.base CX k x ps sp) (hr : Room k X.A) (hg : Gl X x) (hx : ∀ σ, PassesAt CX X σ (E σ)) (ha : PA X (e :: es) t) (hdb : (x == ("__debug__" : Str)) = false := by decide)
    (he : starEach (e :: es) X.env = (false, eval e X.env) :: starEach es X.env := by rfl) (hpl : (backTo pos (starEach es X.env)).any (·.1) = false := by rfl) :
    PE X (.Call (.Name x p) (e :: es) [] pos) (tCallS sp E t) := by
  obtain ⟨f, fd, g, kp, b, F⟩ := G
  exact pe_callS F hr hg g kp b hx ha hdb he hpl
/-- a class of one's own by its __init__ -/
def KOk (P : Program) (w : World) (K : PySem.W.Frag) (mg : Str → Option Value) (base : Heap) (CX : CXT) (k : Nat) (x : Str) (C : Addr) (ps : List Str) (sp : Sp) : Prop :=
  ∃ f fd, Mk K C f ∧ mg x = some (.ref C) ∧ Binds K fd ps [] ∧ FnOk P w K mg base CX k f fd ps sp
theorem pK (G : KOk X.prog X.w X.K X.mg X.base CX k x C ps sp) (hr : Room (k + 1) X.A) (hg : Gl X x) (hx : Passes CX X E) (ha : PA X (e :: es) t) (hdb : (x == ("__debug__" : Str)) = false := by decide)
    (he : starEach (e :: es) X.env = (false, eval e X.env) :: starEach es X.env := by rfl) (hpl : (backTo pos (starEach es X.env)).any (·.1) = false := by rfl) :
    PE X (.Call (.Name x p) (e :: es) [] pos) (tMake C sp [] E t) := by
  obtain ⟨f, fd, M, g, b, F⟩ := G
  exact pe_make M F hr hg g b .nil hx ha hdb he hpl
theorem pK0 (G : KOk X.prog X.w X.K X.mg X.base CX k x C ps sp) (hr : Room (k + 1) X.A) (hg : Gl X x) (hx : Passes CX X E) (hdb : (x == ("__debug__" : Str)) = false := by decide) :
    PE X (.Call (.Name x p) [] [] pos) (tMake C sp [] E tNil) := by
  obtain ⟨f, fd, M, g, b, F⟩ := G
  exact pe_make0 M F hr hg g b .nil hx hdb
end

/-! ### readings, more of them -/
section
variable {K : PySem.W.Frag} {σ : L2.St} {H : Hp} {te to ta tb : TE} {tt : TT} {t : TA} {v z : V} {a C dx : Addr} {fs : List (Str × V)} {f m : Str} {sp : Sp} {vs xs ys : List V} {E : XK}
theorem ev_fld (ho : Ev to σ H (.ref a)) (h : H a = some (.ins C dx fs)) (c : Cls K C) (n : NoAttr K C f) (l : fs.lookup f = some v) : Ev (tFld K to f) σ H v := fun H1 e Q q =>
  ho H1 e _ fun H2 e2 => ⟨a, C, dx, fs, v, rfl, e2 _ _ (e _ _ h), c, n, l, q H2 e2⟩
theorem ev_meth (ho : Ev to σ H (.ref a)) (h : H a = some (.ins C dx fs)) (l : fs.lookup m = none) (ha : EvA t σ H vs) (hs : SpV sp (.ref a :: vs) H z) : Ev (tMeth C m sp [] E to t) σ H z := fun H1 e Q q =>
  ho H1 e _ fun H2 e2 => ⟨a, dx, fs, rfl, e2 _ _ (e _ _ h), l, ha H2 (e.trans e2) _ fun H3 e3 => by
    rw [List.append_nil]
    exact hs H3 ((e.trans e2).trans e3) Q (fun H4 e4 => q H4 ((e2.trans e3).trans e4)) E⟩
theorem el_meth (ho : Ev to σ H (.ref a)) (h : H a = some (.ins C dx fs)) (l : fs.lookup m = none) (ha : EvA t σ H vs) (hs : SpL sp (.ref a :: vs) H xs) : EvL (tMeth C m sp [] E to t) σ H xs := fun H1 e Q q =>
  ho H1 e _ fun H2 e2 => ⟨a, dx, fs, rfl, e2 _ _ (e _ _ h), l, ha H2 (e.trans e2) _ fun H3 e3 => by
    rw [List.append_nil]
    exact hs H3 ((e.trans e2).trans e3) Q (fun p H4 n e4 r => q p H4 (fresh_back (e2.trans e3) n) ((e2.trans e3).trans e4) r) E⟩
theorem ev_callN (h : EvA t σ H vs) (hs : SpV sp vs H z) : Ev (tCall sp [] E t) σ H z := ev_call h (by rw [List.append_nil]; exact hs)
theorem el_callN (h : EvA t σ H vs) (hs : SpL sp vs H xs) : EvL (tCall sp [] E t) σ H xs := el_call h (by rw [List.append_nil]; exact hs)
/-- a list + a list, both new -/
theorem el_cat (ha : EvL ta σ H xs) (hb : EvL tb σ H ys) (hz : xs.length + ys.length ≤ 100000) : EvL (tOp rCat ta tb) σ H (xs ++ ys) := fun H1 e Q q =>
  ha H1 e _ fun p H2 np e2 hp => hb H2 (e.trans e2) _ fun r H3 nr e3 hr => ⟨p, r, xs, ys, rfl, rfl, e3 _ _ hp, hr, sz_of hz, fun l hl =>
    q l _ (fresh_back (e2.trans e3) hl) (Ex.mut (e2.trans e3) (fresh_back (e2.trans e3) hl)) upd_same⟩
/-- a new list + one that stands -/
theorem el_catV {b : Addr} (ha : EvL ta σ H xs) (hb : Ev tb σ H (.ref b)) (h : H b = some (.lst ys)) (hz : xs.length + ys.length ≤ 100000) : EvL (tOp rCat ta tb) σ H (xs ++ ys) := fun H1 e Q q =>
  ha H1 e _ fun p H2 np e2 hp => hb H2 (e.trans e2) _ fun H3 e3 => ⟨p, b, xs, ys, rfl, rfl, e3 _ _ hp, e3 _ _ (e2 _ _ (e _ _ h)), sz_of hz, fun l hl =>
    q l _ (fresh_back (e2.trans e3) hl) (Ex.mut (e2.trans e3) (fresh_back (e2.trans e3) hl)) upd_same⟩
theorem ev_sumN {ns : List Int} (h : EvL te σ H (ns.map V.int)) : Ev (tCB (rSum K) (tCons te tNil)) σ H (.int ns.sum) := fun H1 e Q q =>
  h H1 e _ fun p H2 _ e2 hp => ⟨p, ns, rfl, sq_of hp, q H2 e2⟩
theorem ev_allN {bs : List Bool} (h : EvL te σ H (bs.map V.bl)) : Ev (tCB (rAll K) (tCons te tNil)) σ H (.bl (bs.all id)) := fun H1 e Q q =>
  h H1 e _ fun p H2 _ e2 hp => ⟨p, bs, rfl, sq_of hp, q H2 e2⟩
theorem ev_lenL (h : EvL te σ H xs) : Ev (tCB (fun vs H Q => ∃ p ys, vs = [.ref p] ∧ (SqL K H p ys ∨ SqT K H p ys) ∧ Q (.int ys.length) H) (tCons te tNil)) σ H (.int (xs.length : Int)) := ev_lenN (K := K) h
theorem ev_lenV {p : Addr} (h : Ev te σ H (.ref p)) (hp : SqL K H p xs) : Ev (tCB (fun vs H Q => ∃ p ys, vs = [.ref p] ∧ (SqL K H p ys ∨ SqT K H p ys) ∧ Q (.int ys.length) H) (tCons te tNil)) σ H (.int (xs.length : Int)) := ev_len (K := K) h hp
theorem ev_intB {b : Bool} (h : Ev te σ H (.bl b)) : Ev (tCB (fun xs H Q => (∃ i, xs = [.int i] ∧ Q (.int i) H) ∨ ∃ k, xs = [.bl k] ∧ Q (.int (if k then 1 else 0)) H) (tCons te tNil)) σ H (.int (if b then 1 else 0)) := fun H1 e Q q =>
  h H1 e _ fun H2 e2 => .inr ⟨b, rfl, q H2 e2⟩
/-- list(range(n)) -/
theorem el_listRg {n : Nat} (h : Ev te σ H (.int (n : Int))) (hn : n ≤ 100000) : EvL (tLstRg (tRg1 te)) σ H ((List.range n).map fun i => V.int ((i : Nat) : Int)) := fun H1 e Q q =>
  h H1 e _ fun H2 e2 => ⟨(n : Int), rfl, .of_le (by omega) (by omega) (by omega) (by omega), fun p hp => by
    have ee : rgV 0 (n : Int) = (List.range n).map fun i => V.int ((i : Nat) : Int) := by
      unfold rgV
      rw [show ((n : Int) - 0).toNat = n by omega]
      exact List.map_congr_left fun i _ => by rw [Int.zero_add]
    rw [ee]
    exact q p _ (fresh_back e2 hp) (Ex.mut e2 (fresh_back e2 hp)) upd_same⟩
/-- what a turn of a comprehension over enumerate asks -/
theorem lc_enum {xs : List V} {j k : Nat} {ws : List Nat} {H1 : Hp} {D : Addr} {Qd : Hp → Prop} (f : Nat → Bool) (v : Nat → V) (hD : H1 D = none) (hx : SqL K H1 a xs) (hz : xs.length ≤ 40000)
    (hw : ∀ x y, wipe (((wipe σ ws).set j (some x)).set k (some y)) ws = wipe σ ws)
    (ht : ∀ (i : Nat) (x : V) H2, Ex H1 H2 → xs[i]? = some x → EvT tt (((wipe σ ws).set j (some (.int (i : Int)))).set k (some x)) H2 (f i))
    (he : ∀ (i : Nat) (x : V) H2, Ex H1 H2 → xs[i]? = some x → f i = true → Ev te (((wipe σ ws).set j (some (.int (i : Int)))).set k (some x)) H2 (v i))
    (hd : ∀ H', Ex H1 H' → H' D = some (.lst (given xs.length f v)) → Qd H') :
    ∃ W : Nat → Nat → Hp → Prop, (∃ m, W 0 m (upd H1 D (.lst []))) ∧ ∀ i m H, W i m H →
      ((Ite K a).stop i H ∧ Qd H) ∨ ((Ite K a).go i H ∧ ∃ Nx : Hp → Prop, (∀ H', Nx H' → ∃ m', m' < m ∧ W (i + 1) m' H') ∧ ∀ x H', (Ite K a).yld i H x H' → gTup K 2 (gCons (gName j) (gCons (gName k) gNil)) x (wipe σ ws) H' fun σ2 H2 => wipe σ2 ws = wipe σ ws ∧ tt σ2 H2 fun b H3 =>
        if b = true then te σ2 H3 fun y H4 => ∃ acc, H4 D = some (.lst acc) ∧ acc.length < sizeLine ∧ Nx (upd H4 D (.lst (acc ++ [y]))) else Nx H3) := by
  refine lc_it (walk_enum (K := K) (a := a) (xs := xs)) (Cw H1 f v D) ⟨hD, Ex.new hD, upd_same⟩ (fun i H' _ p => ex_l p.2.1 hx) (fun i x H' H'' hi p y => ?_) (fun H' p => hd H' p.2.1 p.2.2)
  obtain ⟨T, u, y', rfl, nT, rfl, e1, e2⟩ := y
  have e1' : u = .int (i : Int) := (Option.some.inj e1).symm
  subst e1'
  have p' : Cw H1 f v D i (upd H' T (.tup [.int (i : Int), y'])) := ⟨p.1, p.2.1.trans (Ex.new nT), by rw [upd_ne (ne_of_none p.2.2 nT)]; exact p.2.2⟩
  refine ⟨T, [.int (i : Int), y'], rfl, .inl (.inl upd_same), rfl, _, _, rfl, _, _, rfl, rfl, hw _ _, cw_turn p' (by omega) (ht i y' H1 (Ex.refl H1) e2) (fun hf => he i y' H1 (Ex.refl H1) e2 hf)⟩
/-- over enumerate of a list that stands -/
theorem el_lcE {xs : List V} {j k : Nat} {ws : List Nat} (f : Nat → Bool) (v : Nat → V) (h : Ev to σ H (.ref a)) (hx : SqL K H a xs) (hz : xs.length ≤ 40000) (hw : ∀ x y, wipe (((wipe σ ws).set j (some x)).set k (some y)) ws = wipe σ ws)
    (ht : ∀ (i : Nat) (x : V) H1, Ex H H1 → xs[i]? = some x → EvT tt (((wipe σ ws).set j (some (.int (i : Int)))).set k (some x)) H1 (f i))
    (he : ∀ (i : Nat) (x : V) H1, Ex H H1 → xs[i]? = some x → f i = true → Ev te (((wipe σ ws).set j (some (.int (i : Int)))).set k (some x)) H1 (v i)) :
    EvL (tLc (iEnum K (tCons to tNil)) (gTup K 2 (gCons (gName j) (gCons (gName k) gNil))) tt te ws) σ H (given xs.length f v) := fun H0 e Q q => h H0 e _ fun H1 e1 => ⟨a, xs, rfl, ex_l (e.trans e1) hx, fun Dl hD =>
  lc_enum f v hD (ex_l (e.trans e1) hx) hz hw (fun i x H2 e2 hi => ht i x H2 ((e.trans e1).trans e2) hi) (fun i x H2 e2 hi hf => he i x H2 ((e.trans e1).trans e2) hi hf) fun H' e' r => q Dl H' (fresh_back e1 hD) (e1.trans e') r⟩
/-- over enumerate of a new list -/
theorem el_lcNE {xs : List V} {j k : Nat} {ws : List Nat} (f : Nat → Bool) (v : Nat → V) (h : EvL to σ H xs) (hz : xs.length ≤ 40000) (hw : ∀ x y, wipe (((wipe σ ws).set j (some x)).set k (some y)) ws = wipe σ ws)
    (ht : ∀ (i : Nat) (x : V) H1, Ex H H1 → xs[i]? = some x → EvT tt (((wipe σ ws).set j (some (.int (i : Int)))).set k (some x)) H1 (f i))
    (he : ∀ (i : Nat) (x : V) H1, Ex H H1 → xs[i]? = some x → f i = true → Ev te (((wipe σ ws).set j (some (.int (i : Int)))).set k (some x)) H1 (v i)) :
    EvL (tLc (iEnum K (tCons to tNil)) (gTup K 2 (gCons (gName j) (gCons (gName k) gNil))) tt te ws) σ H (given xs.length f v) := fun H0 e Q q => h H0 e _ fun a H1 _ e1 hx => ⟨a, xs, rfl, sq_of hx, fun Dl hD =>
  lc_enum f v hD (sq_of hx) hz hw (fun i x H2 e2 hi => ht i x H2 ((e.trans e1).trans e2) hi) (fun i x H2 e2 hi hf => he i x H2 ((e.trans e1).trans e2) hi hf) fun H' e' r => q Dl H' (fresh_back e1 hD) (e1.trans e') r⟩
theorem et_yes : EvT tYes σ H true := fun H1 _ _ q => q H1 (Ex.refl H1)
end
theorem EvL.is {te : TE} {σ : L2.St} {H : Hp} {xs ys : List V} (h : EvL te σ H xs) (e : xs = ys) : EvL te σ H ys := e ▸ h

/-! ### an answer in the heap -/
def aF (n : Nat) (ls : Addr) : List (Str × V) := [("many", .int (n : Int)), ("says", .ref ls)]
structure AnsAt (C : Addr) (H : Hp) (a ls : Addr) (f : Krdk.Answer) : Prop where
  at_ : ∃ dx, H a = some (.ins C dx (aF f.n ls))
  says : H ls = some (.lst (f.t.map V.bl))
  ok : Ok f
theorem AnsAt.up {C : Addr} {H H' : Hp} {a ls : Addr} {f : Krdk.Answer} (h : AnsAt C H a ls f) (e : Ex H H') : AnsAt C H' a ls f :=
  ⟨let ⟨dx, q⟩ := h.at_; ⟨dx, e _ _ q⟩, e _ _ h.says, h.ok⟩
theorem lk_here {k : Str} {v : V} {r : List (Str × V)} : List.lookup k ((k, v) :: r) = some v := by
  have e : (k == k) = true := beq_self_eq_true k
  simp only [List.lookup, e]
theorem lk_past {k g : Str} {v : V} {r : List (Str × V)} (h : (k == g) = false) : List.lookup k ((g, v) :: r) = List.lookup k r := by
  simp only [List.lookup, h]
theorem aF_many (n : Nat) (ls : Addr) : (aF n ls).lookup ("many" : Str) = some (.int (n : Int)) := lk_here
theorem aF_says (n : Nat) (ls : Addr) : (aF n ls).lookup ("says" : Str) = some (.ref ls) := (lk_past (by decide +kernel)).trans lk_here
theorem aF_none {m : Str} {n : Nat} {ls : Addr} (h1 : (m == ("many" : Str)) = false) (h2 : (m == ("says" : Str)) = false) : (aF n ls).lookup m = none := (lk_past h1).trans ((lk_past h2).trans rfl)
/-- the desk -/
def dF (v : V) : List (Str × V) := [("own", v)]
def DeskAt (CD CA : Addr) (H : Hp) (d : Addr) : Option Krdk.Answer → Prop
  | none => ∃ dx, H d = some (.ins CD dx (dF .non))
  | some f => ∃ dx a ls, H d = some (.ins CD dx (dF (.ref a))) ∧ AnsAt CA H a ls f
theorem dF_own (v : V) : (dF v).lookup ("own" : Str) = some v := lk_here
theorem dF_none {m : Str} {v : V} (h1 : (m == ("own" : Str)) = false) : (dF v).lookup m = none := (lk_past h1).trans rfl

/-! ### what the top has written -/
structure Tx (K : PySem.W.Frag) (mg : Str → Option Value) (CA CD CR : Addr) : Prop where
  len : mg "len" = none
  sum : mg "sum" = none
  all : mg "all" = none
  abs : mg "abs" = none
  max : mg "max" = none
  range : mg "range" = none
  enum : mg "enumerate" = none
  list : mg "list" = none
  int : mg "int" = none
  ve : mg "ValueError" = none
  cA : Cls K CA
  nM : NoAttr K CA "many"
  nS : NoAttr K CA "says"
  cD : Cls K CD
  nO : NoAttr K CD "own"
  gR : mg "Refused" = some (.ref CR)
  oex : OexC K CR
  nR : PySem.W.findIn K (.ref CR) "refusal" = some none
  xf : XfC K CR
  eR : PySem.W.exmOne K (.ref CR) (.ref CR) = some true
  vV : PySem.W.findCls K (.type "ValueError") (.type "type") "__init__" = some (.val (.builtin "ValueError.__init__"))
  kNB : ∃ t, mg "NO_BIT" = some (.int (-2) t)
  kNG : ∃ t, mg "NOT_BEGUN" = some (.int (-11) t)
  kNR : ∃ t, mg "NOT_RIGHT" = some (.int (-22) t)
  kMB : ∃ t, mg "MOST_BITS" = some (.int 5 t)
  kMT : ∃ t, mg "MOST_TOLD" = some (.int 32 t)
  kGN : ∃ t, mg "GREATEST_NUMBER" = some (.int 9 t)
/-- the i-th statement of the program -/
def tp (i : Nat) : Stmt := PySem.Challenge.pw_bitsways_s01_answers.main.body.getD i (.Pass ⟨0, 0, 0, 0⟩)
abbrev sA (i : Nat) : Stmt := inClass (tp 10) i
abbrev sD (i : Nat) : Stmt := inClass (tp 21) i
/-- a constant of the module -/
theorem pk {X : Cx} {x : Str} {i : Int} {pos : Pos} (h : ∃ t, X.mg x = some (.int i t)) (hg : Gl X x) (hd : (x == ("__debug__" : Str)) = false := by decide) : PE X (.Name x pos) (tC (.int i)) := by
  obtain ⟨t, h⟩ := h
  exact pe_glob hg h ⟨t, rfl⟩ hd
end Bw
namespace Bw
open PySem PySem.Spec PyProof.Rows L2 Evl
variable {P : Program} {w : World} {K : PySem.W.Frag} {mg : Str → Option Value} {base : Heap} {CA CD CR : Addr}

theorem s_par {i j : Nat} {ta : TA} {D : Ends} {σ : L2.St} {H : Hp} {v z : V} (h : EvA ta σ H [v, z]) (k : ∀ H1, Ex H H1 → D.nx ((σ.set i (some v)).set j (some z)) H1) : tPar i j ta D σ H := h H (Ex.refl H) _ fun H1 e => ⟨v, z, rfl, k H1 e⟩
/-! ### divisor_of -/
def spDiv : Sp := fun vs H Q _ => ∃ a b : Nat, vs = [.int (a : Int), .int (b : Int)] ∧ ∀ H', Ex H H' → Q (.int ((Nat.gcd a b : Nat) : Int)) H'
theorem v_div {H : Hp} {a b : Nat} : SpV spDiv [.int (a : Int), .int (b : Int)] H (.int ((Nat.gcd a b : Nat) : Int)) := fun H1 _ Q q _ => ⟨a, b, rfl, q⟩
theorem sc_div : FnScope ["one", "other"] ["one", "other"] (defScope (tp 1)) := ⟨rfl, rfl, rfl, by decide +kernel, rfl, by decide +kernel, by decide +kernel⟩
theorem ok_div (D : GDef K mg "divisor_of" (tp 1) ["one", "other"]) : GOk P w K mg base CX0 1 "divisor_of" ["one", "other"] spDiv := by
  refine D.ok sc_div (fun vs H Q E h => ?_) (fun f cdv A outer s H vs Q E hr h => ?_)
  · obtain ⟨a, b, rfl, _⟩ := h
    rfl
  · obtain ⟨a, b, rfl, k⟩ := h
    refine ⟨_, pss_cons (ps_while PassesOwn.never (pt_cmpR op_gt (pv 1) pe_int (nomark _))
      (pss_one (ps_par (i := 0) (j := 1) rfl sc_div.nd rfl rfl (by decide) rfl rfl (pa_cons (pv 1) (pa_cons (pe_op op_mod (pv 0) (pv 1)) pa_nil)) (by rfl)))) (pss_one (ps_ret (pv 0))), ?_⟩
    refine q_while (fun m σ H' => ∃ x y : Nat, σ = [some (.int (x : Int)), some (.int (y : Int))] ∧ m = y ∧ Nat.gcd x y = Nat.gcd a b ∧ Ex H H') b ⟨a, b, rfl, rfl, rfl, Ex.refl H⟩ ?_
    rintro m σ' H' ⟨x, y, rfl, rfl, g, e⟩
    refine ⟨decide ((0 : Int) < (m : Int)), et_test (ev_op (ev_var rfl) ev_c rv_I0), fun hb H1 e1 => ?_, fun hb H1 e1 => ?_⟩
    · have hy : 0 < m := by simpa using hb
      refine ⟨fun σ2 H2 => σ2 = [some (.int (m : Int)), some (.int ((x % m : Nat) : Int))] ∧ Ex H H2, fun σ2 H2 hh => ⟨x % m, Nat.mod_lt _ hy, m, x % m, hh.1, rfl, ?_, hh.2⟩, ?_⟩
      · rw [← g, Nat.gcd_comm x m, Nat.gcd_rec m x, Nat.gcd_comm]
      · refine s_par (ea_cons (ev_var rfl) (ea_cons (ev_op (ev_var rfl) (ev_var rfl) (rv_I (show (0 : Int) < (m : Int) by omega))) ea_nil)) fun H2 e2 => ⟨?_, (e.trans e1).trans e2⟩
        show [some (V.int (m : Int)), some (V.int ((x : Int) % (m : Int)))] = _
        rw [Int.natCast_emod]
    · have hy : m = 0 := by simpa using hb
      subst hy
      refine s_ret (ev_var rfl) fun H2 e2 => ?_
      rw [← g, Nat.gcd_zero_right] at k
      exact k H2 ((e.trans e1).trans e2)
/-! ### fraction -/
def spFr : Sp := fun vs H Q _ => ∃ (u : Int) (l : Nat), vs = [.int u, .int (l : Int)] ∧ 0 < l ∧ l ≤ 100000 ∧ ∀ p H', H p = none → Ex H H' → H' p = some (.lst ((Krdk.fr (mkRat u l)).map V.int)) → Q (.ref p) H'
theorem v_fr {H : Hp} {u : Int} {l : Nat} (h : 0 < l) (h2 : l ≤ 100000) : SpL spFr [.int u, .int (l : Int)] H ((Krdk.fr (mkRat u l)).map V.int) := fun H1 _ Q q _ => ⟨u, l, rfl, h, h2, q⟩
theorem sc_fr : FnScope ["upper", "lower", "by"] ["upper", "lower"] (defScope (tp 2)) := ⟨rfl, rfl, rfl, by decide +kernel, rfl, by decide +kernel, by decide +kernel⟩
theorem rc_abs {u : Int} {H : Hp} : RC (fun xs H Q => ∃ i, xs = [.int i] ∧ Q (.int (if i < 0 then -i else i)) H) [.int u] H (.int (u.natAbs : Int)) := fun H1 _ Q q => ⟨u, rfl, by
  have e : (if u < 0 then -u else u) = (u.natAbs : Int) := by split <;> omega
  rw [e]
  exact q H1 (Ex.refl H1)⟩
theorem ok_fr (D : GDef K mg "fraction" (tp 2) ["upper", "lower"]) (T : Tx K mg CA CD CR) (h1 : GOk P w K mg base CX0 1 "divisor_of" ["one", "other"] spDiv) : GOk P w K mg base CX0 2 "fraction" ["upper", "lower"] spFr := by
  refine D.ok sc_fr (fun vs H Q E h => ?_) (fun f cdv A outer s H vs Q E hr h => ?_)
  · obtain ⟨a, b, rfl, _⟩ := h
    rfl
  · obtain ⟨u, l, rfl, hl, hl2, k⟩ := h
    refine ⟨_, pss_cons (ps_set (i := 2) sc_fr.nd rfl (Or.inl rfl) (pG h1 hr rfl pass0 (pa_cons (pe_callB call_abs (by rfl) T.abs (by decide +kernel) (pa_cons (pv 0) pa_nil)) (pa_cons (pv 1) pa_nil))))
      (pss_one (ps_ret (pe_lst (pa_cons (pe_op op_fdiv (pv 0) (pv 2)) (pa_cons (pe_op op_fdiv (pv 1) (pv 2)) pa_nil))))), ?_⟩
    have gp : 0 < Nat.gcd u.natAbs l := Nat.gcd_pos_of_pos_right _ hl
    have gl : Nat.gcd u.natAbs l ≤ l := Nat.gcd_le_right _ hl
    have c : ∀ i : Int, CDiv i ((Nat.gcd u.natAbs l : Nat) : Int) := fun i => ⟨by omega, by omega⟩
    refine q_asg (ev_callN (ea_cons (ev_cb (ea_cons (ev_var rfl) ea_nil) rc_abs) (ea_cons (ev_var rfl) ea_nil)) v_div) fun H1 e1 => ?_
    refine s_retL (el_lst (ea_cons (ev_op (ev_var rfl) (ev_var rfl) (rv_I (c _))) (ea_cons (ev_op (ev_var rfl) (ev_var rfl) (rv_I (c _))) ea_nil)) (by show 2 ≤ 100000; decide)) fun p H2 np e2 hp => k p H2 (fresh_back e1 np) (e1.trans e2) ?_
    rw [hp, fr_eq u hl, Int.natCast_ediv]
    rfl
/-! ### many_words, has_bit, many_bits, is_odd, turned -/
def spMw : Sp := fun vs H Q _ => ∃ n : Nat, vs = [.int (n : Int)] ∧ n ≤ 5 ∧ ∀ H', Ex H H' → Q (.int ((2 ^ n : Nat) : Int)) H'
theorem v_mw {H : Hp} {n : Nat} (h : n ≤ 5) : SpV spMw [.int (n : Int)] H (.int ((2 ^ n : Nat) : Int)) := fun H1 _ Q q _ => ⟨n, rfl, h, q⟩
theorem sc_mw : FnScope ["many"] ["many"] (defScope (tp 4)) := ⟨rfl, rfl, rfl, by decide +kernel, rfl, by decide +kernel, by decide +kernel⟩
theorem shl_one {n : Nat} (h : n ≤ 5) {H : Hp} : RV (rI CPow fun i j => V.int (i * 2 ^ j.toNat)) (.int 1) (.int (n : Int)) H (.int ((2 ^ n : Nat) : Int)) := fun H1 _ Q q => ⟨1, n, rfl, rfl, ⟨by omega, by omega, by decide⟩, by
  show Q (V.int (1 * 2 ^ ((n : Int)).toNat)) H1
  rw [Int.toNat_natCast, Int.one_mul, show ((2 : Int) ^ n) = ((2 ^ n : Nat) : Int) by rw [Int.natCast_pow]; rfl]
  exact q H1 (Ex.refl H1)⟩
theorem ok_mw (D : GDef K mg "many_words" (tp 4) ["many"]) : GOk P w K mg base CX0 1 "many_words" ["many"] spMw := by
  refine D.ok sc_mw (fun vs H Q E h => ?_) (fun f cdv A outer s H vs Q E hr h => ?_)
  · obtain ⟨a, rfl, _⟩ := h
    rfl
  · obtain ⟨n, rfl, hn, k⟩ := h
    refine ⟨_, pss_one (ps_ret (pe_op op_shl pe_int (pv 0))), ?_⟩
    exact s_ret (ev_op ev_c (ev_var rfl) (shl_one hn)) k
def spHb : Sp := fun vs H Q _ => ∃ s b : Nat, vs = [.int (s : Int), .int (b : Int)] ∧ ∀ H', Ex H H' → Q (.bl (s.testBit b)) H'
theorem v_hb {H : Hp} {s b : Nat} : SpV spHb [.int (s : Int), .int (b : Int)] H (.bl (s.testBit b)) := fun H1 _ Q q _ => ⟨s, b, rfl, q⟩
theorem sc_hb : FnScope ["some", "bit"] ["some", "bit"] (defScope (tp 5)) := ⟨rfl, rfl, rfl, by decide +kernel, rfl, by decide +kernel, by decide +kernel⟩
theorem bit_val (s b : Nat) : decide (V.int (Builtin.bitAnd ((s : Int) / 2 ^ ((b : Int)).toNat) 1) = V.int 1) = s.testBit b := by
  have e : Builtin.bitAnd ((s : Int) / 2 ^ ((b : Int)).toNat) 1 = ((s / 2 ^ b % 2 : Nat) : Int) := by
    have z := Bits.bitAnd_mask (x := (s : Int) / 2 ^ ((b : Int)).toNat) 1 (Int.ediv_nonneg (by omega) (Int.pow_nonneg (by decide)))
    rw [show ((2 : Int) ^ 1 - 1) = 1 by decide] at z
    rw [z, Int.toNat_natCast, show ((2 : Int) ^ b) = ((2 ^ b : Nat) : Int) by rw [Int.natCast_pow]; rfl]
    rw [Int.natCast_emod, Int.natCast_ediv]
    rfl
  rw [e, Nat.testBit_eq_decide_div_mod_eq, dec_int]
  rw [Bool.eq_iff_iff, decide_eq_true_iff, beq_iff_eq]
  omega
theorem ok_hb (D : GDef K mg "has_bit" (tp 5) ["some", "bit"]) : GOk P w K mg base CX0 1 "has_bit" ["some", "bit"] spHb := by
  refine D.ok sc_hb (fun vs H Q E h => ?_) (fun f cdv A outer s H vs Q E hr h => ?_)
  · obtain ⟨a, b, rfl, _⟩ := h
    rfl
  · obtain ⟨n, b, rfl, k⟩ := h
    refine ⟨_, pss_one (ps_ret (pe_cmpR op_eq (pe_op op_and (pe_op op_shr (pv 0) (pv 1)) pe_int) pe_int (nomark _))), ?_⟩
    refine s_ret (ev_op (ev_op (ev_op (ev_var rfl) (ev_var rfl) (rv_I (show (0 : Int) ≤ (b : Int) by omega))) ev_c rv_I0) ev_c (rv_eq rfl)) fun H1 e1 => ?_
    rw [bit_val]
    exact k H1 e1
def spMb : Sp := fun vs H Q _ => ∃ x : Nat, vs = [.int (x : Int)] ∧ x < 64 ∧ ∀ H', Ex H H' → Q (.int (pop x : Int)) H'
theorem v_mb {H : Hp} {x : Nat} (h : x < 64) : SpV spMb [.int (x : Int)] H (.int (pop x : Int)) := fun H1 _ Q q _ => ⟨x, rfl, h, q⟩
theorem sc_mb : FnScope ["some", "found"] ["some"] (defScope (tp 6)) := ⟨rfl, rfl, rfl, by decide +kernel, rfl, by decide +kernel, by decide +kernel⟩
theorem ok_mb (D : GDef K mg "many_bits" (tp 6) ["some"]) : GOk P w K mg base CX0 1 "many_bits" ["some"] spMb := by
  refine D.ok sc_mb (fun vs H Q E h => ?_) (fun f cdv A outer s H vs Q E hr h => ?_)
  · obtain ⟨a, rfl, _⟩ := h
    rfl
  · obtain ⟨x, rfl, hx, k⟩ := h
    refine ⟨_, pss_cons (ps_set (i := 1) sc_mb.nd rfl (Or.inl rfl) pe_int) (pss_cons (ps_while PassesOwn.never (pt_cmpR op_gt (pv 0) pe_int (nomark _))
      (pss_cons (ps_set (i := 1) sc_mb.nd rfl (Or.inl rfl) (pe_op op_add (pv 1) (pe_op op_mod (pv 0) pe_int))) (pss_one (ps_set (i := 0) sc_mb.nd rfl (Or.inl rfl) (pe_op op_fdiv (pv 0) pe_int))))) (pss_one (ps_ret (pv 1)))), ?_⟩
    refine q_asg ev_c fun H1 e1 => ?_
    refine q_while (fun m σ H' => ∃ y c : Nat, σ = [some (.int (y : Int)), some (.int (c : Int))] ∧ m = y ∧ y < 64 ∧ c + pop y = pop x ∧ Ex H H') x ⟨x, 0, rfl, rfl, hx, by omega, e1⟩ ?_
    rintro m σ' H' ⟨y, c, rfl, rfl, hy, g, e⟩
    refine ⟨decide ((0 : Int) < (m : Int)), et_test (ev_op (ev_var rfl) ev_c rv_I0), fun hb H1 e1 => ?_, fun hb H1 e1 => ?_⟩
    · have hm : 0 < m := by simpa using hb
      refine ⟨fun σ2 H2 => σ2 = [some (.int ((m / 2 : Nat) : Int)), some (.int ((c + m % 2 : Nat) : Int))] ∧ Ex H H2, fun σ2 H2 hh => ⟨m / 2, by omega, m / 2, c + m % 2, hh.1, rfl, by omega, ?_, hh.2⟩, ?_⟩
      · have z := pop_step m hy
        omega
      · refine q_asg (ev_op (ev_var rfl) (ev_op (ev_var rfl) ev_c (rv_I (show (0 : Int) < 2 by decide))) rv_I0) fun H2 e2 => ?_
        refine s_asg (ev_op (ev_var rfl) ev_c (rv_I (⟨by decide, by decide⟩ : CDiv _ 2))) fun H3 e3 => ⟨?_, ((e.trans e1).trans e2).trans e3⟩
        show [some (V.int ((m : Int) / 2)), some (V.int ((c : Int) + (m : Int) % 2))] = _
        rw [Int.natCast_ediv, Int.natCast_add, Int.natCast_emod]
        rfl
    · have hm : m = 0 := by simpa using hb
      subst hm
      refine s_ret (ev_var rfl) fun H2 e2 => ?_
      have z : c = pop x := by
        have := pop_zero
        omega
      rw [z]
      exact k H2 ((e.trans e1).trans e2)
def spOd : Sp := fun vs H Q _ => ∃ x s : Nat, vs = [.int (x : Int), .int (s : Int)] ∧ x < 32 ∧ ∀ H', Ex H H' → Q (.bl (isOdd x s)) H'
theorem v_od {H : Hp} {x s : Nat} (h : x < 32) : SpV spOd [.int (x : Int), .int (s : Int)] H (.bl (isOdd x s)) := fun H1 _ Q q _ => ⟨x, s, rfl, h, q⟩
theorem sc_od : FnScope ["word", "some"] ["word", "some"] (defScope (tp 7)) := ⟨rfl, rfl, rfl, by decide +kernel, rfl, by decide +kernel, by decide +kernel⟩
theorem ok_od (D : GDef K mg "is_odd" (tp 7) ["word", "some"]) (h1 : GOk P w K mg base CX0 1 "many_bits" ["some"] spMb) : GOk P w K mg base CX0 2 "is_odd" ["word", "some"] spOd := by
  refine D.ok sc_od (fun vs H Q E h => ?_) (fun f cdv A outer s H vs Q E hr h => ?_)
  · obtain ⟨a, b, rfl, _⟩ := h
    rfl
  · obtain ⟨x, s, rfl, hx, k⟩ := h
    refine ⟨_, pss_one (ps_ret (pe_cmpR op_eq (pe_op op_mod (pG h1 hr rfl pass0 (pa_cons (pe_op op_and (pv 0) (pv 1)) pa_nil)) pe_int) pe_int (nomark _))), ?_⟩
    have e : Builtin.bitAnd (x : Int) (s : Int) = ((x &&& s : Nat) : Int) := by rw [bitAnd_pp (by omega) (by omega), Int.toNat_natCast, Int.toNat_natCast]
    have hl : x &&& s < 64 := Nat.lt_of_le_of_lt Nat.and_le_left (by omega)
    refine s_ret (ev_op (ev_op (ev_callN (ea_cons (ev_op (ev_var rfl) (ev_var rfl) rv_I0) ea_nil) (by rw [e]; exact v_mb hl)) ev_c (rv_I (show (0 : Int) < 2 by decide))) ev_c (rv_eq rfl)) fun H1 e1 => ?_
    have z : decide (V.int ((pop (x &&& s) : Int) % 2) = V.int 1) = isOdd x s := by
      unfold isOdd
      rw [dec_int, Bool.eq_iff_iff, decide_eq_true_iff, beq_iff_eq]
      omega
    rw [z]
    exact k H1 e1
def spTu : Sp := fun vs H Q _ => ∃ x i : Nat, vs = [.int (x : Int), .int (i : Int)] ∧ x < 32 ∧ i < 5 ∧ ∀ H', Ex H H' → Q (.int (Krdk.flip x i : Int)) H'
theorem v_tu {H : Hp} {x i : Nat} (h : x < 32) (h2 : i < 5) : SpV spTu [.int (x : Int), .int (i : Int)] H (.int (Krdk.flip x i : Int)) := fun H1 _ Q q _ => ⟨x, i, rfl, h, h2, q⟩
theorem sc_tu : FnScope ["word", "bit"] ["word", "bit"] (defScope (tp 8)) := ⟨rfl, rfl, rfl, by decide +kernel, rfl, by decide +kernel, by decide +kernel⟩
theorem ok_tu (D : GDef K mg "turned" (tp 8) ["word", "bit"]) : GOk P w K mg base CX0 1 "turned" ["word", "bit"] spTu := by
  refine D.ok sc_tu (fun vs H Q E h => ?_) (fun f cdv A outer s H vs Q E hr h => ?_)
  · obtain ⟨a, b, rfl, _⟩ := h
    rfl
  · obtain ⟨x, i, rfl, hx, hi, k⟩ := h
    refine ⟨_, pss_one (ps_ret (pe_op op_xor (pv 0) (pe_op op_shl pe_int (pv 1)))), ?_⟩
    refine s_ret (ev_op (ev_var rfl) (ev_op ev_c (ev_var rfl) (shl_one (by omega))) rv_I0) fun H1 e1 => ?_
    rw [Bits.bitXor_pp (by omega) (Int.natCast_nonneg _), Int.toNat_natCast, Int.toNat_natCast, flip_xor i hi x hx]
    exact k H1 e1
end Bw
namespace Bw
open PySem PySem.Spec PyProof.Rows L2 Evl
variable {P : Program} {w : World} {K : PySem.W.Frag} {mg : Str → Option Value} {base : Heap} {CA CD CR : Addr}
/-! ### promises of an answer's methods -/
def nV (l : List Nat) : List V := l.map fun (x : Nat) => V.int (x : Int)
def pV1 (C : Addr) (g : Krdk.Answer → V) : Sp := fun vs H Q _ => ∃ a ls f, vs = [.ref a] ∧ AnsAt C H a ls f ∧ ∀ H', Ex H H' → Q (g f) H'
def pL1 (C : Addr) (g : Krdk.Answer → List V) : Sp := fun vs H Q _ => ∃ a ls f, vs = [.ref a] ∧ AnsAt C H a ls f ∧ ∀ p H', H p = none → Ex H H' → H' p = some (.lst (g f)) → Q (.ref p) H'
def pV2 (C : Addr) (c : Krdk.Answer → Nat → Prop) (g : Krdk.Answer → Nat → V) : Sp := fun vs H Q _ => ∃ a ls f x, vs = [.ref a, .int ((x : Nat) : Int)] ∧ AnsAt C H a ls f ∧ c f x ∧ ∀ H', Ex H H' → Q (g f x) H'
def pL2 (C : Addr) (c : Krdk.Answer → Nat → Prop) (g : Krdk.Answer → Nat → List V) : Sp := fun vs H Q _ => ∃ a ls f x, vs = [.ref a, .int ((x : Nat) : Int)] ∧ AnsAt C H a ls f ∧ c f x ∧ ∀ p H', H p = none → Ex H H' → H' p = some (.lst (g f x)) → Q (.ref p) H'
section
variable {C a ls : Addr} {f : Krdk.Answer} {H : Hp} {x : Nat} {c : Krdk.Answer → Nat → Prop}
theorem v1 {g : Krdk.Answer → V} (h : AnsAt C H a ls f) : SpV (pV1 C g) [.ref a] H (g f) := fun H1 e Q q _ => ⟨a, ls, f, rfl, h.up e, q⟩
theorem l1 {g : Krdk.Answer → List V} (h : AnsAt C H a ls f) : SpL (pL1 C g) [.ref a] H (g f) := fun H1 e Q q _ => ⟨a, ls, f, rfl, h.up e, q⟩
theorem v2 {g : Krdk.Answer → Nat → V} (h : AnsAt C H a ls f) (hc : c f x) : SpV (pV2 C c g) [.ref a, .int (x : Int)] H (g f x) := fun H1 e Q q _ => ⟨a, ls, f, x, rfl, h.up e, hc, q⟩
theorem l2 {g : Krdk.Answer → Nat → List V} (h : AnsAt C H a ls f) (hc : c f x) : SpL (pL2 C c g) [.ref a, .int (x : Int)] H (g f x) := fun H1 e Q q _ => ⟨a, ls, f, x, rfl, h.up e, hc, q⟩
theorem n1 {g : Krdk.Answer → V} {s : Str} (vs : List V) (H : Hp) (Q : VK) (E : XK) (h : pV1 C g vs H Q E) : vs.length = [s].length := by
  obtain ⟨_, _, _, rfl, _⟩ := h
  rfl
theorem m1 {g : Krdk.Answer → List V} {s : Str} (vs : List V) (H : Hp) (Q : VK) (E : XK) (h : pL1 C g vs H Q E) : vs.length = [s].length := by
  obtain ⟨_, _, _, rfl, _⟩ := h
  rfl
theorem n2 {g : Krdk.Answer → Nat → V} {s t : Str} (vs : List V) (H : Hp) (Q : VK) (E : XK) (h : pV2 C c g vs H Q E) : vs.length = [s, t].length := by
  obtain ⟨_, _, _, _, rfl, _⟩ := h
  rfl
theorem m2 {g : Krdk.Answer → Nat → List V} {s t : Str} (vs : List V) (H : Hp) (Q : VK) (E : XK) (h : pL2 C c g vs H Q E) : vs.length = [s, t].length := by
  obtain ⟨_, _, _, _, rfl, _⟩ := h
  rfl
end
/-! ### reading an answer -/
section
variable {a ls : Addr} {f : Krdk.Answer} {H : Hp} {σ : L2.St} {to : TE} {t : TA} {m : Str} {sp : Sp} {vs xs : List V} {z : V} {E : XK}
theorem ev_many (T : Tx K mg CA CD CR) (h : AnsAt CA H a ls f) (ho : Ev to σ H (.ref a)) : Ev (tFld K to "many") σ H (.int (f.n : Int)) := by
  obtain ⟨dx, q⟩ := h.at_
  exact ev_fld ho q T.cA T.nM (aF_many _ _)
theorem ev_says (T : Tx K mg CA CD CR) (h : AnsAt CA H a ls f) (ho : Ev to σ H (.ref a)) : Ev (tFld K to "says") σ H (.ref ls) := by
  obtain ⟨dx, q⟩ := h.at_
  exact ev_fld ho q T.cA T.nS (aF_says _ _)
theorem ev_mA (h : AnsAt CA H a ls f) (ho : Ev to σ H (.ref a)) (ha : EvA t σ H vs) (hs : SpV sp (.ref a :: vs) H z) (h1 : (m == ("many" : Str)) = false := by decide +kernel) (h2 : (m == ("says" : Str)) = false := by decide +kernel) : Ev (tMeth CA m sp [] E to t) σ H z := by
  obtain ⟨dx, q⟩ := h.at_
  exact ev_meth ho q (aF_none h1 h2) ha hs
theorem el_mA (h : AnsAt CA H a ls f) (ho : Ev to σ H (.ref a)) (ha : EvA t σ H vs) (hs : SpL sp (.ref a :: vs) H xs) (h1 : (m == ("many" : Str)) = false := by decide +kernel) (h2 : (m == ("says" : Str)) = false := by decide +kernel) : EvL (tMeth CA m sp [] E to t) σ H xs := by
  obtain ⟨dx, q⟩ := h.at_
  exact el_meth ho q (aF_none h1 h2) ha hs
end
theorem bl_at {l : List Bool} {i : Nat} {x : V} (h : (l.map V.bl)[i]? = some x) : x = .bl (l.getD i false) ∧ i < l.length := by
  rw [List.getElem?_map] at h
  cases e : l[i]? with
  | none =>
    rw [e] at h
    cases h
  | some b =>
    rw [e] at h
    have z : V.bl b = x := Option.some.inj h
    rw [← z, List.getD_eq_getElem?_getD, e]
    exact ⟨rfl, (List.getElem?_eq_some_iff.mp e).1⟩
theorem nV_at {l : List Nat} {i : Nat} {x : V} (h : (nV l)[i]? = some x) : x = .int ((l.getD i 0 : Nat) : Int) ∧ i < l.length := by
  unfold nV at h
  rw [List.getElem?_map] at h
  cases e : l[i]? with
  | none =>
    rw [e] at h
    cases h
  | some b =>
    rw [e] at h
    have z : V.int (b : Int) = x := Option.some.inj h
    rw [← z, List.getD_eq_getElem?_getD, e]
    exact ⟨rfl, (List.getElem?_eq_some_iff.mp e).1⟩
theorem says_at {f : Krdk.Answer} (o : Ok f) {x : Nat} (h : x < 2 ^ f.n) : atI (f.t.map V.bl) (x : Int) = some (.bl (f.at_ x)) := by
  have hl : x < f.t.length := by rw [o.len]; exact h
  refine atI_nat ?_
  rw [List.getElem?_map, List.getElem?_eq_getElem hl]
  unfold Krdk.Answer.at_
  rw [List.getD_eq_getElem?_getD, List.getElem?_eq_getElem hl]
  rfl
theorem says_len {f : Krdk.Answer} (o : Ok f) : (f.t.map V.bl).length = 2 ^ f.n := by rw [List.length_map, o.len]
theorem bl_ne (a b : Bool) : (!decide (V.bl a = V.bl b)) = (a != b) := by cases a <;> cases b <;> rfl
theorem bl_eq (a b : Bool) : decide (V.bl a = V.bl b) = (a == b) := by cases a <;> cases b <;> rfl
theorem nV_len (l : List Nat) : (nV l).length = l.length := by
  unfold nV
  rw [List.length_map]
theorem Ok.size {f : Krdk.Answer} (o : Ok f) : 2 ^ f.n ≤ 32 := two_le o.hi
/-! ### Answer.__init__ -/
def spAI (C : Addr) : Sp := fun vs H Q _ => ∃ (p dx ls : Addr) (n : Nat), vs = [.ref p, .int (n : Int), .ref ls] ∧ H p = some (.ins C dx []) ∧
  ∀ H' : Hp, H' p = some (.ins C dx (aF n ls)) → (∀ b o, H b = some o → b ≠ p → H' b = some o) → Q .non H'
theorem sc_ai : FnScope ["self", "many", "says"] ["self", "many", "says"] (defScope (sA 0)) := ⟨rfl, rfl, rfl, by decide +kernel, rfl, by decide +kernel, by decide +kernel⟩
theorem aF_new (n : Nat) (ls : Addr) : putF "says" (.ref ls) (putF "many" (.int (n : Int)) []) = aF n ls := by
  show (if ("many" : Str) = "says" then _ else _) = _
  rw [if_neg (by decide +kernel)]
  rfl
theorem ok_ai {fI : Addr} {fd : FuncData} (F : Fun K "__init__" "Answer.__init__" (sA 0) fI fd) (T : Tx K mg CA CD CR) : FnOk P w K mg base CX0 1 fI fd ["self", "many", "says"] (spAI CA) := by
  refine F.ok sc_ai (fun vs H Q E h => ?_) (fun cdv A outer s H vs Q E hr h => ?_)
  · obtain ⟨p, dx, ls, n, rfl, _⟩ := h
    rfl
  · obtain ⟨p, dx, ls, n, rfl, hp, k⟩ := h
    refine ⟨_, pss_cons (ps_fld (pv 0) (pv 1) rfl) (pss_one (ps_fld (pv 0) (pv 2) rfl)), ?_⟩
    refine ⟨_, rfl, _, rfl, p, CA, dx, [], rfl, hp, T.cA, T.nM, (by show 0 < 1000; decide), ?_⟩
    refine ⟨_, rfl, _, rfl, p, CA, dx, _, rfl, upd_same, T.cA, T.nS, (by show 1 < 1000; decide), ?_⟩
    refine k _ (Eq.trans upd_same (congrArg (fun q => some (HO.ins CA dx q)) (aF_new n ls))) fun b o e hb => ?_
    rw [upd_ne hb, upd_ne hb]
    exact e
/-! ### size, words, many_yes -/
abbrev spSz (C : Addr) : Sp := pV1 C fun f => .int ((2 ^ f.n : Nat) : Int)
theorem sc_sz : FnScope ["self"] ["self"] (defScope (sA 1)) := ⟨rfl, rfl, rfl, by decide +kernel, rfl, by decide +kernel, by decide +kernel⟩
theorem ok_sz (D : MDef K CA "size" "Answer.size" (sA 1) ["self"]) (T : Tx K mg CA CD CR) (h1 : GOk P w K mg base CX0 1 "many_words" ["many"] spMw) : MOk P w K mg base CX0 2 CA "size" ["self"] (spSz CA) := by
  refine D.ok sc_sz n1 (fun _ cdv A outer s H vs Q E hr h => ?_)
  obtain ⟨a, ls, f, rfl, hA, k⟩ := h
  refine ⟨_, pss_one (ps_ret (pG h1 hr rfl pass0 (pa_cons (pe_fld (pv 0) rfl) pa_nil))), ?_⟩
  exact s_ret (ev_callN (ea_cons (ev_many T hA (ev_var rfl)) ea_nil) (v_mw hA.ok.hi)) k
abbrev spWs (C : Addr) : Sp := pL1 C fun f => nV ((Krdk.words f.n).filter f.at_)
theorem sc_ws : FnScope ["self", "word", "is_yes"] ["self"] (defScope (sA 2)) := ⟨rfl, rfl, rfl, by decide +kernel, rfl, by decide +kernel, by decide +kernel⟩
theorem ok_ws (D : MDef K CA "words" "Answer.words" (sA 2) ["self"]) (T : Tx K mg CA CD CR) : MOk P w K mg base CX0 1 CA "words" ["self"] (spWs CA) := by
  refine D.ok sc_ws m1 (fun _ cdv A outer s H vs Q E hr h => ?_)
  obtain ⟨a, ls, f, rfl, hA, k⟩ := h
  refine ⟨_, pss_one (ps_ret (pe_lc (own := [("word", 1), ("is_yes", 2)]) (g := gTup K 2 (gCons (gName 1) (gCons (gName 2) gNil))) rfl sc_ws.nd (pi_enum (by rfl) T.enum (pa_cons (pe_fld (pv 0) rfl) pa_nil)) (blkOk_by (N := ["self", "word", "is_yes"]) (sc := defScope (sA 2)) (by decide +kernel))
    (fun _ _ _ _ _ => by exact pg_tup rfl (pgs_cons (pg_name (i := 1) sc_ws.nd rfl (Or.inl rfl)) (pgs_cons (pg_name (i := 2) sc_ws.nd rfl (Or.inl rfl)) pgs_nil))) (fun _ _ _ _ _ => pts_one (pt_val (pv 2))) (fun _ _ _ _ _ => pv 1))), ?_⟩
  refine s_retL (el_lcE (fun i => f.t.getD i false) (fun i => .int (i : Int)) (ev_says T hA (ev_var rfl)) (sq_of hA.says) (by rw [says_len hA.ok]; have := hA.ok.size; omega) (fun _ _ => rfl) (fun i x H1 _ hi => ?_) (fun i x H1 _ hi hf => ?_)) fun p H1 np e1 hp => k p H1 np e1 ?_
  · obtain ⟨rfl, _⟩ := bl_at hi
    exact et_B (ev_var rfl)
  · exact ev_var rfl
  · rw [hp, says_len hA.ok]
    rfl
abbrev spMy (C : Addr) : Sp := pV1 C fun f => .int (f.yes : Int)
theorem sc_my : FnScope ["self"] ["self"] (defScope (sA 3)) := ⟨rfl, rfl, rfl, by decide +kernel, rfl, by decide +kernel, by decide +kernel⟩
theorem ok_my (D : MDef K CA "many_yes" "Answer.many_yes" (sA 3) ["self"]) (T : Tx K mg CA CD CR) (h1 : MOk P w K mg base CX0 1 CA "words" ["self"] (spWs CA)) : MOk P w K mg base CX0 2 CA "many_yes" ["self"] (spMy CA) := by
  refine D.ok sc_my n1 (fun _ cdv A outer s H vs Q E hr h => ?_)
  obtain ⟨a, ls, f, rfl, hA, k⟩ := h
  refine ⟨_, pss_one (ps_ret (pe_callB call_len_seq (by rfl) T.len (by decide +kernel) (pa_cons (pM0 h1 T.cA hr pass0 (pv 0)) pa_nil))), ?_⟩
  refine s_ret (ev_lenL (el_mA hA (ev_var rfl) ea_nil (l1 hA))) fun H1 e1 => ?_
  rw [nV_len]
  exact k H1 e1
/-! ### is_swayed, many_swayed, all_swayed, sides -/
def spIs (C : Addr) : Sp := fun vs H Q _ => ∃ a ls f x i, vs = [.ref a, .int ((x : Nat) : Int), .int ((i : Nat) : Int)] ∧ AnsAt C H a ls f ∧ x < 2 ^ f.n ∧ i < f.n ∧ ∀ H', Ex H H' → Q (.bl (f.sways i x)) H'
theorem v_is {C a ls : Addr} {f : Krdk.Answer} {H : Hp} {x i : Nat} (h : AnsAt C H a ls f) (hx : x < 2 ^ f.n) (hi : i < f.n) : SpV (spIs C) [.ref a, .int (x : Int), .int (i : Int)] H (.bl (f.sways i x)) := fun H1 e Q q _ => ⟨a, ls, f, x, i, rfl, h.up e, hx, hi, q⟩
theorem sc_is : FnScope ["self", "word", "bit"] ["self", "word", "bit"] (defScope (sA 4)) := ⟨rfl, rfl, rfl, by decide +kernel, rfl, by decide +kernel, by decide +kernel⟩
theorem ok_is (D : MDef K CA "is_swayed" "Answer.is_swayed" (sA 4) ["self", "word", "bit"]) (T : Tx K mg CA CD CR) (h1 : GOk P w K mg base CX0 1 "turned" ["word", "bit"] spTu) : MOk P w K mg base CX0 2 CA "is_swayed" ["self", "word", "bit"] (spIs CA) := by
  refine D.ok sc_is (fun vs H Q E h => ?_) (fun _ cdv A outer s H vs Q E hr h => ?_)
  · obtain ⟨_, _, _, _, _, rfl, _⟩ := h
    rfl
  obtain ⟨a, ls, f, x, i, rfl, hA, hx, hi, k⟩ := h
  refine ⟨_, pss_one (ps_ret (pe_cmpR op_ne (pe_ix ix_list (pe_fld (pv 0) rfl) (pv 1) (fun _ _ => rfl)) (pe_ix ix_list (pe_fld (pv 0) rfl) (pG h1 hr rfl pass0 (pa_cons (pv 1) (pa_cons (pv 2) pa_nil))) (fun _ _ => rfl)) (nomark _))), ?_⟩
  have o := hA.ok
  have h32 := o.size
  refine s_ret (ev_op (ev_op (ev_says T hA (ev_var rfl)) (ev_var rfl) (rv_ixL (sq_of hA.says) (says_at o hx))) (ev_op (ev_says T hA (ev_var rfl)) (ev_callN (ea_cons (ev_var rfl) (ea_cons (ev_var rfl) ea_nil)) (v_tu (by omega) (by have := o.hi; omega))) (rv_ixL (sq_of hA.says) (says_at o (flip_lt o.hi hi hx)))) (rv_ne rfl)) fun H1 e1 => ?_
  rw [bl_ne]
  exact k H1 e1
abbrev spMs (C : Addr) : Sp := pV2 C (fun f i => i < f.n) fun f i => .int (cnt f i : Int)
theorem sc_ms : FnScope ["self", "bit", "word"] ["self", "bit"] (defScope (sA 5)) := ⟨rfl, rfl, rfl, by decide +kernel, rfl, by decide +kernel, by decide +kernel⟩
theorem ok_ms (D : MDef K CA "many_swayed" "Answer.many_swayed" (sA 5) ["self", "bit"]) (T : Tx K mg CA CD CR) (h1 : MOk P w K mg base CX0 2 CA "size" ["self"] (spSz CA)) (h2 : MOk P w K mg base CX0 2 CA "is_swayed" ["self", "word", "bit"] (spIs CA)) :
    MOk P w K mg base CX0 3 CA "many_swayed" ["self", "bit"] (spMs CA) := by
  refine D.ok sc_ms n2 (fun _ cdv A outer s H vs Q E hr h => ?_)
  obtain ⟨a, ls, f, i, rfl, hA, hi, k⟩ := h
  refine ⟨_, pss_one (ps_ret (pe_callB call_len_seq (by rfl) T.len (by decide +kernel) (pa_cons (pe_lc (own := [("word", 2)]) rfl sc_ms.nd (pi_range1 rfl T.range (pa_cons (pM0 h1 T.cA hr pass0 (pv 0)) pa_nil)) (blkOk_by (N := ["self", "bit", "word"]) (sc := defScope (sA 5)) (by decide +kernel))
    (fun _ _ _ _ _ => pg_name (i := 2) sc_ms.nd rfl (Or.inl rfl)) (fun _ _ _ _ _ => pts_one (pt_val (pM h2 T.cA hr pass0 (pv 0) (pa_cons (pv 2) (pa_cons (pv 1) pa_nil))))) (fun _ _ _ _ _ => pv 2)) pa_nil))), ?_⟩
  have o := hA.ok
  have h32 := o.size
  refine s_ret (ev_lenL (el_lcR1 (fun x => f.sways i x) (fun x => .int (x : Int)) (ea_cons (ev_mA hA (ev_var rfl) ea_nil (v1 hA)) ea_nil) ⟨Int.natCast_nonneg _, by omega⟩ (fun _ => rfl) (fun x H1 e1 hx => ?_) (fun x H1 e1 hx hf => ev_var rfl))) fun H1 e1 => ?_
  · exact et_B (ev_mA (hA.up e1) (ev_var rfl) (ea_cons (ev_var rfl) (ea_cons (ev_var rfl) ea_nil)) (v_is (hA.up e1) (by omega) hi))
  · have z : ((given (((2 ^ f.n : Nat) : Int)).toNat (fun x => f.sways i x) (fun x => V.int (x : Int))).length : Int) = (cnt f i : Int) := by
      rw [Int.toNat_natCast]
      unfold given cnt Krdk.words
      rw [List.length_map]
    rw [z]
    exact k H1 e1
abbrev spAs (C : Addr) : Sp := pL1 C fun f => nV ((List.range f.n).map (cnt f))
theorem sc_as : FnScope ["self", "bit"] ["self"] (defScope (sA 6)) := ⟨rfl, rfl, rfl, by decide +kernel, rfl, by decide +kernel, by decide +kernel⟩
theorem ok_as (D : MDef K CA "all_swayed" "Answer.all_swayed" (sA 6) ["self"]) (T : Tx K mg CA CD CR) (h1 : MOk P w K mg base CX0 3 CA "many_swayed" ["self", "bit"] (spMs CA)) : MOk P w K mg base CX0 4 CA "all_swayed" ["self"] (spAs CA) := by
  refine D.ok sc_as m1 (fun _ cdv A outer s H vs Q E hr h => ?_)
  obtain ⟨a, ls, f, rfl, hA, k⟩ := h
  refine ⟨_, pss_one (ps_ret (pe_lc (own := [("bit", 1)]) rfl sc_as.nd (pi_range1 rfl T.range (pa_cons (pe_fld (pv 0) rfl) pa_nil)) (blkOk_by (N := ["self", "bit"]) (sc := defScope (sA 6)) (by decide +kernel))
    (fun _ _ _ _ _ => pg_name (i := 1) sc_as.nd rfl (Or.inl rfl)) (fun _ _ _ _ _ => pts_nil) (fun _ _ _ _ _ => pM h1 T.cA hr pass0 (pv 0) (pa_cons (pv 1) pa_nil)))), ?_⟩
  have o := hA.ok
  have h5 := o.hi
  refine s_retL (el_lcR1 (fun _ => true) (fun x => .int (cnt f x : Int)) (ea_cons (ev_many T hA (ev_var rfl)) ea_nil) ⟨by omega, by omega⟩ (fun _ => rfl) (fun x H1 e1 hx => et_yes) (fun x H1 e1 hx hf => ?_)) fun p H1 np e1 hp => k p H1 np e1 ?_
  · exact ev_mA (hA.up e1) (ev_var rfl) (ea_cons (ev_var rfl) ea_nil) (v2 (hA.up e1) (by omega))
  · rw [hp, Int.toNat_natCast]
    show some (HO.lst (cmp f.n (fun _ => true) fun x => V.int (cnt f x : Int))) = some (HO.lst (nV ((List.range f.n).map (cnt f))))
    rw [cmp_true]
    unfold nV
    rw [List.map_map]
    rfl
abbrev spSi (C : Addr) : Sp := pV1 C fun f => .int (f.sides : Int)
theorem sc_si : FnScope ["self"] ["self"] (defScope (sA 7)) := ⟨rfl, rfl, rfl, by decide +kernel, rfl, by decide +kernel, by decide +kernel⟩
theorem nV_int (l : List Nat) : nV l = (l.map fun (x : Nat) => (x : Int)).map V.int := by
  unfold nV
  rw [List.map_map]
  rfl
theorem ok_si (D : MDef K CA "sides" "Answer.sides" (sA 7) ["self"]) (T : Tx K mg CA CD CR) (h1 : MOk P w K mg base CX0 4 CA "all_swayed" ["self"] (spAs CA)) : MOk P w K mg base CX0 5 CA "sides" ["self"] (spSi CA) := by
  refine D.ok sc_si n1 (fun _ cdv A outer s H vs Q E hr h => ?_)
  obtain ⟨a, ls, f, rfl, hA, k⟩ := h
  refine ⟨_, pss_one (ps_ret (pe_op op_fdiv (pe_callB (cr_sum rfl) (by rfl) T.sum (by decide +kernel) (pa_cons (pM0 h1 T.cA hr pass0 (pv 0)) pa_nil)) pe_int)), ?_⟩
  refine s_ret (ev_op (ev_sumN (ns := ((List.range f.n).map (cnt f)).map fun (x : Nat) => (x : Int)) (EvL.is (el_mA hA (ev_var rfl) ea_nil (l1 hA)) (nV_int _))) ev_c (rv_I (⟨by decide, by decide⟩ : CDiv _ 2))) fun H1 e1 => ?_
  rw [sum_cast]
  have z : (((((List.range f.n).map (cnt f)).sum : Nat) : Int)) / 2 = (f.sides : Int) := by
    rw [sides_eq]
    omega
  rw [z]
  exact k H1 e1
end Bw
namespace Bw
open PySem PySem.Spec PyProof.Rows L2 Evl
variable {P : Program} {w : World} {K : PySem.W.Frag} {mg : Str → Option Value} {base : Heap} {CA CD CR : Addr}
/-! ### sum_for -/
abbrev spSf (C : Addr) : Sp := pV2 C (fun f s => s < 2 ^ f.n) fun f s => .int (sumFor f s)
theorem sc_sf : FnScope ["self", "some", "odd", "word", "is_yes", "one"] ["self", "some"] (defScope (sA 8)) := ⟨rfl, rfl, rfl, by decide +kernel, rfl, by decide +kernel, by decide +kernel⟩
/-- which words a set's part counts -/
def hitB (f : Krdk.Answer) (s : Nat) : List Bool := (List.range (2 ^ f.n)).map fun x => isOdd x s == f.at_ x
theorem ok_sf (D : MDef K CA "sum_for" "Answer.sum_for" (sA 8) ["self", "some"]) (T : Tx K mg CA CD CR) (h1 : GOk P w K mg base CX0 2 "is_odd" ["word", "some"] spOd) (h2 : MOk P w K mg base CX0 2 CA "size" ["self"] (spSz CA)) :
    MOk P w K mg base CX0 3 CA "sum_for" ["self", "some"] (spSf CA) := by
  refine D.ok sc_sf n2 (fun _ cdv A outer s H vs Q E hr h => ?_)
  obtain ⟨a, ls, f, s, rfl, hA, hs, k⟩ := h
  refine ⟨_, pss_cons (ps_setLc (i := 2) (own := [("word", 3), ("is_yes", 4)]) (g := gTup K 2 (gCons (gName 3) (gCons (gName 4) gNil))) rfl sc_sf.nd rfl rfl (sw_true rfl rfl rfl (by decide +kernel))
      (pi_enum (by rfl) T.enum (pa_cons (pe_fld (pv 0) rfl) pa_nil)) (blkOk_by (N := ["self", "some", "odd", "word", "is_yes", "one"]) (sc := defScope (sA 8)) (by decide +kernel))
      (fun _ _ _ _ _ => by exact pg_tup rfl (pgs_cons (pg_name (i := 3) sc_sf.nd rfl (Or.inl rfl)) (pgs_cons (pg_name (i := 4) sc_sf.nd rfl (Or.inl rfl)) pgs_nil))) (fun _ _ _ _ _ => pts_nil)
      (fun _ _ _ _ _ => pe_cmpR op_eq (pG h1 hr rfl pass0 (pa_cons (pv 3) (pa_cons (pv 1) pa_nil))) (pv 4) (nomark _)))
    (pss_one (ps_ret (pe_op op_sub (pe_op op_mul pe_int (pe_callB call_len_seq (by rfl) T.len (by decide +kernel) (pa_cons
      (pe_lc (own := [("one", 5)]) (g := gName 5) rfl sc_sf.nd (pi_list (pv 2)) (blkOk_by (N := ["self", "some", "odd", "word", "is_yes", "one"]) (sc := defScope (sA 8)) (by decide +kernel))
        (fun _ _ _ _ _ => pg_name (i := 5) sc_sf.nd rfl (Or.inl rfl)) (fun _ _ _ _ _ => pts_one (pt_val (pv 5))) (fun _ _ _ _ _ => pv 5)) pa_nil))) (pM0 h2 T.cA hr pass0 (pv 0))))), ?_⟩
  have o := hA.ok
  have h32 := o.size
  refine q_asgL (xs := (hitB f s).map V.bl) (EvL.is (el_lcE (fun _ => true) (fun i => .bl (isOdd i s == f.at_ i)) (ev_says T hA (ev_var rfl)) (sq_of hA.says) (by rw [says_len o]; omega) (fun _ _ => rfl) (fun i x H1 _ hi => et_yes) (fun i x H1 _ hi hf => ?_)) ?_) fun q H1 nq e1 hq => ?_
  · obtain ⟨rfl, hl⟩ := bl_at hi
    rw [o.len] at hl
    refine ev_is (ev_op (ev_callN (ea_cons (ev_var rfl) (ea_cons (ev_var rfl) ea_nil)) (v_od (by omega))) (ev_var rfl) (rv_eq rfl)) ?_
    rw [bl_eq]
    rfl
  · rw [says_len o]
    show cmp (2 ^ f.n) (fun _ => true) (fun i => V.bl (isOdd i s == f.at_ i)) = _
    rw [cmp_true]
    unfold hitB
    rw [List.map_map]
    rfl
  · have hl : (hitB f s).length = 2 ^ f.n := by simp [hitB]
    refine s_ret (ev_op (ev_op ev_c (ev_lenL (el_lcL (fun i => (hitB f s).getD i false) (fun i => .bl ((hitB f s).getD i false)) (ev_var rfl) (sq_of hq) (by rw [List.length_map, hl]; omega) (fun _ => rfl) (fun i x H2 _ hi => ?_) (fun i x H2 _ hi hf => ?_))) (rv_I (.inl ⟨by decide, by decide⟩))) (ev_mA (hA.up e1) (ev_var rfl) ea_nil (v1 (hA.up e1))) rv_I0) fun H2 e2 => ?_
    · obtain ⟨rfl, _⟩ := bl_at hi
      exact et_B (ev_var rfl)
    · obtain ⟨rfl, _⟩ := bl_at hi
      exact ev_var rfl
    · have z : (given ((hitB f s).map V.bl).length (fun i => (hitB f s).getD i false) (fun i => V.bl ((hitB f s).getD i false))).length = hits f s := by
        rw [List.length_map, hl]
        unfold given hits Krdk.words
        rw [List.length_map]
        congr 1
        refine List.filter_congr fun x hx => ?_
        unfold hitB
        exact getD_range_map (List.mem_range.mp hx)
      rw [z]
      exact k H2 (e1.trans e2)
/-! ### sums, part, level -/
abbrev spSs (C : Addr) : Sp := pL1 C fun f => (List.range (2 ^ f.n)).map fun s => V.int (sumFor f s)
theorem sc_ss : FnScope ["self", "some"] ["self"] (defScope (sA 9)) := ⟨rfl, rfl, rfl, by decide +kernel, rfl, by decide +kernel, by decide +kernel⟩
theorem ok_ss (D : MDef K CA "sums" "Answer.sums" (sA 9) ["self"]) (T : Tx K mg CA CD CR) (h1 : MOk P w K mg base CX0 3 CA "sum_for" ["self", "some"] (spSf CA)) (h2 : MOk P w K mg base CX0 2 CA "size" ["self"] (spSz CA)) : MOk P w K mg base CX0 4 CA "sums" ["self"] (spSs CA) := by
  refine D.ok sc_ss m1 (fun _ cdv A outer s H vs Q E hr h => ?_)
  obtain ⟨a, ls, f, rfl, hA, k⟩ := h
  refine ⟨_, pss_one (ps_ret (pe_lc (own := [("some", 1)]) (g := gName 1) rfl sc_ss.nd (pi_range1 rfl T.range (pa_cons (pM0 h2 T.cA (hr.mono (by decide)) pass0 (pv 0)) pa_nil)) (blkOk_by (N := ["self", "some"]) (sc := defScope (sA 9)) (by decide +kernel))
    (fun _ _ _ _ _ => pg_name (i := 1) sc_ss.nd rfl (Or.inl rfl)) (fun _ _ _ _ _ => pts_nil) (fun _ _ _ _ _ => pM h1 T.cA hr pass0 (pv 0) (pa_cons (pv 1) pa_nil)))), ?_⟩
  have o := hA.ok
  have h32 := o.size
  refine s_retL (el_lcR1 (fun _ => true) (fun x => .int (sumFor f x)) (ea_cons (ev_mA hA (ev_var rfl) ea_nil (v1 hA)) ea_nil) ⟨Int.natCast_nonneg _, by omega⟩ (fun _ => rfl) (fun x H1 e1 hx => et_yes) (fun x H1 e1 hx hf => ?_)) fun p H1 np e1 hp => k p H1 np e1 ?_
  · exact ev_mA (hA.up e1) (ev_var rfl) (ea_cons (ev_var rfl) ea_nil) (v2 (hA.up e1) (by omega))
  · rw [hp, Int.toNat_natCast]
    show some (HO.lst (cmp (2 ^ f.n) (fun _ => true) fun x => V.int (sumFor f x))) = _
    rw [cmp_true]
abbrev spPa (C : Addr) : Sp := pL2 C (fun f s => s < 2 ^ f.n) fun f s => (Krdk.fr (f.part s)).map V.int
theorem sc_pa : FnScope ["self", "some"] ["self", "some"] (defScope (sA 10)) := ⟨rfl, rfl, rfl, by decide +kernel, rfl, by decide +kernel, by decide +kernel⟩
theorem ok_pa (D : MDef K CA "part" "Answer.part" (sA 10) ["self", "some"]) (T : Tx K mg CA CD CR) (h1 : MOk P w K mg base CX0 3 CA "sum_for" ["self", "some"] (spSf CA)) (h2 : MOk P w K mg base CX0 2 CA "size" ["self"] (spSz CA))
    (h3 : GOk P w K mg base CX0 2 "fraction" ["upper", "lower"] spFr) : MOk P w K mg base CX0 4 CA "part" ["self", "some"] (spPa CA) := by
  refine D.ok sc_pa m2 (fun _ cdv A outer s H vs Q E hr h => ?_)
  obtain ⟨a, ls, f, s, rfl, hA, hs, k⟩ := h
  refine ⟨_, pss_one (ps_ret (pG h3 (hr.mono (by decide)) rfl pass0 (pa_cons (pM h1 T.cA hr pass0 (pv 0) (pa_cons (pv 1) pa_nil)) (pa_cons (pM0 h2 T.cA (hr.mono (by decide)) pass0 (pv 0)) pa_nil)))), ?_⟩
  have h32 := hA.ok.size
  refine s_retL (el_callN (ea_cons (ev_mA hA (ev_var rfl) (ea_cons (ev_var rfl) ea_nil) (v2 hA hs)) (ea_cons (ev_mA hA (ev_var rfl) ea_nil (v1 hA)) ea_nil)) (v_fr (two_pos _) (by omega))) fun p H1 np e1 hp => k p H1 np e1 ?_
  rw [hp, ← part_eq hA.ok hs]
abbrev spLe (C : Addr) : Sp := pL2 C (fun _ _ => True) fun f k => (Krdk.fr (f.level k)).map V.int
theorem sc_le : FnScope ["self", "k", "found", "some", "own"] ["self", "k"] (defScope (sA 11)) := ⟨rfl, rfl, rfl, by decide +kernel, rfl, by decide +kernel, by decide +kernel⟩
theorem sums_at {f : Krdk.Answer} {i : Nat} {x : V} (h : ((List.range (2 ^ f.n)).map fun s => V.int (sumFor f s))[i]? = some x) : x = .int (sumFor f i) ∧ i < 2 ^ f.n := by
  obtain ⟨h1, h2⟩ := List.getElem?_eq_some_iff.mp h
  rw [List.getElem_map, List.getElem_range] at h2
  rw [List.length_map, List.length_range] at h1
  exact ⟨h2.symm, h1⟩
theorem sumFor_abs {f : Krdk.Answer} (o : Ok f) (s : Nat) : -32 ≤ sumFor f s ∧ sumFor f s ≤ 64 := by
  unfold sumFor
  have h1 : hits f s ≤ 2 ^ f.n := by
    unfold hits Krdk.words
    exact Nat.le_trans (List.length_filter_le _ _) (by simp)
  have h2 := o.size
  omega
theorem ok_le (D : MDef K CA "level" "Answer.level" (sA 11) ["self", "k"]) (T : Tx K mg CA CD CR) (h1 : MOk P w K mg base CX0 4 CA "sums" ["self"] (spSs CA)) (h2 : MOk P w K mg base CX0 2 CA "size" ["self"] (spSz CA))
    (h3 : GOk P w K mg base CX0 2 "fraction" ["upper", "lower"] spFr) (h4 : GOk P w K mg base CX0 1 "many_bits" ["some"] spMb) : MOk P w K mg base CX0 5 CA "level" ["self", "k"] (spLe CA) := by
  refine D.ok sc_le m2 (fun _ cdv A outer s H vs Q E hr h => ?_)
  obtain ⟨a, ls, f, n, rfl, hA, _, k⟩ := h
  refine ⟨_, pss_cons (ps_set (i := 2) sc_le.nd rfl (Or.inl rfl) (pe_callB (cr_sum rfl) (by rfl) T.sum (by decide +kernel) (pa_cons
      (pe_lc (own := [("some", 3), ("own", 4)]) (g := gTup K 2 (gCons (gName 3) (gCons (gName 4) gNil))) rfl sc_le.nd (pi_enum (by rfl) T.enum (pa_cons (pM0 h1 T.cA hr pass0 (pv 0)) pa_nil)) (blkOk_by (N := ["self", "k", "found", "some", "own"]) (sc := defScope (sA 11)) (by decide +kernel))
        (fun _ _ _ _ _ => by exact pg_tup rfl (pgs_cons (pg_name (i := 3) sc_le.nd rfl (Or.inl rfl)) (pgs_cons (pg_name (i := 4) sc_le.nd rfl (Or.inl rfl)) pgs_nil)))
        (fun _ _ _ _ _ => pts_one (pt_cmpR op_eq (pG h4 (hr.mono (by decide)) rfl pass0 (pa_cons (pv 3) pa_nil)) (pv 1) (nomark _))) (fun _ _ _ _ _ => pe_op op_mul (pv 4) (pv 4))) pa_nil)))
    (pss_one (ps_ret (pG h3 (hr.mono (by decide)) rfl pass0 (pa_cons (pv 2) (pa_cons (pe_op op_mul (pM0 h2 T.cA (hr.mono (by decide)) pass0 (pv 0)) (pM0 h2 T.cA (hr.mono (by decide)) pass0 (pv 0))) pa_nil))))), ?_⟩
  have o := hA.ok
  have h32 := o.size
  have ll : ((List.range (2 ^ f.n)).map fun s => V.int (sumFor f s)).length = 2 ^ f.n := by simp
  refine q_asg (ev_sumN (ns := cmp (2 ^ f.n) (fun s => pop s == n) (fun s => sumFor f s * sumFor f s)) (EvL.is (el_lcNE (fun s => pop s == n) (fun s => .int (sumFor f s * sumFor f s)) (el_mA hA (ev_var rfl) ea_nil (l1 hA)) (by rw [ll]; omega) (fun _ _ => rfl) (fun i x H1 _ hi => ?_) (fun i x H1 _ hi hf => ?_)) ?_)) fun H1 e1 => ?_
  · obtain ⟨rfl, hl⟩ := sums_at hi
    refine et_is (et_test (ev_op (ev_callN (ea_cons (ev_var rfl) ea_nil) (v_mb (by omega))) (ev_var rfl) (rv_eq rfl))) ?_
    rw [dec_int, Bool.eq_iff_iff, beq_iff_eq, beq_iff_eq]
    omega
  · obtain ⟨rfl, hl⟩ := sums_at hi
    have z := sumFor_abs o i
    exact ev_op (ev_var rfl) (ev_var rfl) (rv_I (.inl ⟨by omega, by omega⟩))
  · rw [ll]
    exact cmp_map _ _ _ V.int
  · have hA1 := hA.up e1
    have hsz : 2 ^ f.n * 2 ^ f.n ≤ 100000 := Nat.le_trans (Nat.mul_le_mul h32 h32) (by decide)
    refine s_retL (el_callN (ea_cons (ev_var rfl) (ea_cons (ev_is (ev_op (ev_mA hA1 (ev_var rfl) ea_nil (v1 hA1)) (ev_mA hA1 (ev_var rfl) ea_nil (v1 hA1)) (rv_I (.inl ⟨by omega, by omega⟩))) ?_) ea_nil)) (v_fr (l := 2 ^ f.n * 2 ^ f.n) (Nat.mul_pos (two_pos _) (two_pos _)) hsz)) fun p H2 np e2 hp => k p H2 (fresh_back e1 np) (e1.trans e2) ?_
    · rw [Int.natCast_mul]
    · rw [hp, ← level_eq o]
/-! ### is_rising -/
abbrev spRi (C : Addr) : Sp := pV1 C fun f => .bl f.rising
theorem sc_ri : FnScope ["self", "bit", "some", "word"] ["self"] (defScope (sA 12)) := ⟨rfl, rfl, rfl, by decide +kernel, rfl, by decide +kernel, by decide +kernel⟩
def lowW (f : Krdk.Answer) (i : Nat) : List Nat := ((Krdk.words f.n).filter f.at_).filter fun x => !x.testBit i
theorem lowW_lt {f : Krdk.Answer} {i x : Nat} (h : x ∈ lowW f i) : x < 2 ^ f.n := List.mem_range.mp (List.mem_filter.mp (List.mem_filter.mp h).1).1
theorem getD_mem {l : List Nat} {j : Nat} (h : j < l.length) : l.getD j 0 ∈ l := by
  rw [List.getD_eq_getElem?_getD, List.getElem?_eq_getElem h]
  exact List.getElem_mem h
theorem lowW_len (f : Krdk.Answer) (i : Nat) : (lowW f i).length ≤ 2 ^ f.n := by
  unfold lowW Krdk.words
  exact Nat.le_trans (List.length_filter_le _ _) (Nat.le_trans (List.length_filter_le _ _) (by simp))
theorem all_split {p : Nat → Bool} (n : Nat) : (List.range (n + 1)).all p = ((List.range n).all p && p n) := by
  rw [List.range_succ, List.all_append]
  simp
theorem ok_ri (D : MDef K CA "is_rising" "Answer.is_rising" (sA 12) ["self"]) (T : Tx K mg CA CD CR) (h1 : MOk P w K mg base CX0 1 CA "words" ["self"] (spWs CA)) (h2 : GOk P w K mg base CX0 1 "has_bit" ["some", "bit"] spHb)
    (h3 : GOk P w K mg base CX0 1 "turned" ["word", "bit"] spTu) : MOk P w K mg base CX0 2 CA "is_rising" ["self"] (spRi CA) := by
  refine D.ok sc_ri n1 (fun _ cdv A outer s H vs Q E hr h => ?_)
  obtain ⟨a, ls, f, rfl, hA, k⟩ := h
  refine ⟨_, pss_cons (ps_for PassesOwn.never rfl (pi_range1 rfl T.range (pa_cons (pe_fld (pv 0) rfl) pa_nil)) (pg_name (i := 1) sc_ri.nd rfl (Or.inr rfl))
      (pss_cons (ps_setLc (i := 2) (own := [("word", 3)]) (g := gName 3) rfl sc_ri.nd rfl rfl (sw_true rfl rfl rfl (by decide +kernel)) (pi_list (pM0 h1 T.cA hr pass0 (pv 0))) (blkOk_by (N := ["self", "bit", "some", "word"]) (sc := defScope (sA 12)) (by decide +kernel))
          (fun _ _ _ _ _ => pg_name (i := 3) sc_ri.nd rfl (Or.inl rfl)) (fun _ _ _ _ _ => pts_one (pt_not (pt_val (pG h2 hr rfl pass0 (pa_cons (pv 3) (pa_cons (pv 1) pa_nil)))))) (fun _ _ _ _ _ => pv 3))
        (pss_one (ps_if (pt_not (pt_val (pe_callB (cr_all rfl) (by rfl) T.all (by decide +kernel) (pa_cons
            (pe_lc (own := [("word", 3)]) (g := gName 3) (te := tOp (rIxL K) (tFld K (tVar 0) "says") (tCall spTu [] E0 (tCons (tVar 3) (tCons (tVar 1) tNil)))) rfl sc_ri.nd (pi_list (pv 2)) (blkOk_by (N := ["self", "bit", "some", "word"]) (sc := defScope (sA 12)) (by decide +kernel))
              (fun _ _ _ _ _ => pg_name (i := 3) sc_ri.nd rfl (Or.inl rfl)) (fun _ _ _ _ _ => pts_nil) (fun _ _ _ _ _ => by exact pe_ix ix_list (pe_fld (pv 0) rfl) (pG h3 hr rfl pass0 (pa_cons (pv 3) (pa_cons (pv 1) pa_nil))) (fun _ _ => rfl))) pa_nil))))
          (pss_one (ps_ret pe_bl)) pss_nil))))
    (pss_one (ps_ret pe_bl)), ?_⟩
  have o := hA.ok
  have h32 := o.size
  have h5 := o.hi
  rw [show (fun f : Krdk.Answer => V.bl f.rising) f = V.bl f.rising from rfl, rising_eq o] at k
  refine q_forR1 (ea_cons (ev_many T hA (ev_var rfl)) ea_nil) ⟨by omega, by omega⟩ (fun i σ H' => (∃ u v : Option V, σ = [some (.ref a), u, v, none]) ∧ Ex H H' ∧ ((List.range i).all fun i => (lowW f i).all fun x => f.at_ (Krdk.flip x i)) = true) (fun H1 e1 => ⟨⟨_, _, rfl⟩, e1, rfl⟩) ?_ ?_
  · rintro i σ' H' hi ⟨⟨u, v, rfl⟩, e, hall⟩
    have hA1 := hA.up e
    refine q_asgL (xs := nV (lowW f i)) (EvL.is (el_lcNL (fun j => !(((Krdk.words f.n).filter f.at_).getD j 0).testBit i) (fun j => .int ((((Krdk.words f.n).filter f.at_).getD j 0 : Nat) : Int)) (el_mA hA1 (ev_var rfl) ea_nil (l1 hA1)) ?_ (fun _ => rfl) (fun j x H1 e1 hj => ?_) (fun j x H1 e1 hj hf => ?_)) ?_) fun q H1 nq e1 hq => ?_
    · rw [nV_len]
      have z := yes_le f
      unfold Krdk.Answer.yes at z
      omega
    · obtain ⟨rfl, _⟩ := nV_at hj
      exact et_not (et_B (ev_callN (ea_cons (ev_var rfl) (ea_cons (ev_var rfl) ea_nil)) v_hb))
    · obtain ⟨rfl, _⟩ := nV_at hj
      exact ev_var rfl
    · rw [nV_len]
      show cmp _ _ _ = _
      unfold lowW nV
      exact cmp_list 0 _ (fun x : Nat => !x.testBit i) (fun x : Nat => V.int (x : Int))
    · have hA2 := hA1.up e1
      have ll := lowW_len f i
      refine s_when (b := !((lowW f i).map fun x => f.at_ (Krdk.flip x i)).all id) (et_not (et_B (ev_allN (EvL.is (el_lcL (fun _ => true) (fun j => .bl (f.at_ (Krdk.flip ((lowW f i).getD j 0) i))) (ev_var rfl) (sq_of hq) (by rw [nV_len]; omega) (fun _ => rfl) (fun j x H2 e2 hj => et_yes) (fun j x H2 e2 hj hf => ?_)) ?_)))) (fun hb H2 e2 => ?_) (fun hb H2 e2 => ?_)
      · obtain ⟨rfl, hl⟩ := nV_at hj
        have hx := lowW_lt (getD_mem hl)
        exact ev_op (ev_says T (hA2.up e2) (ev_var rfl)) (ev_callN (ea_cons (ev_var rfl) (ea_cons (ev_var rfl) ea_nil)) (v_tu (by omega) (by omega))) (rv_ixL (sq_of (hA2.up e2).says) (says_at o (flip_lt h5 (by omega) hx)))
      · rw [nV_len]
        show cmp _ _ _ = _
        rw [List.map_map]
        exact (cmp_list 0 (lowW f i) (fun _ => true) (fun x : Nat => V.bl (f.at_ (Krdk.flip x i)))).trans (by rw [List.filter_eq_self.mpr fun _ _ => rfl]; rfl)
      · refine s_ret ev_c fun H3 e3 => ?_
        have hF : ((List.range f.n).all fun i => (lowW f i).all fun x => f.at_ (Krdk.flip x i)) = false := by
          rw [List.all_map] at hb
          have hb' : ((lowW f i).all fun x => f.at_ (Krdk.flip x i)) = false := by simpa using hb
          rw [List.all_eq_false]
          exact ⟨i, List.mem_range.mpr (by omega), by rw [hb']; decide⟩
        have k' := k H3 (((e.trans e1).trans e2).trans e3)
        rw [show ((List.range f.n).all fun i => (((Krdk.words f.n).filter f.at_).filter fun x => !x.testBit i).all fun x => f.at_ (Krdk.flip x i)) = false from hF] at k'
        exact k'
      · refine ⟨⟨_, _, rfl⟩, (e.trans e1).trans e2, ?_⟩
        rw [all_split, hall]
        rw [List.all_map] at hb
        simpa using hb
  · rintro σ' H' ⟨⟨u, v, rfl⟩, e, hall⟩
    rw [Int.toNat_natCast] at hall
    refine s_ret ev_c fun H1 e1 => ?_
    have k' := k H1 (e.trans e1)
    rw [show ((List.range f.n).all fun i => (((Krdk.words f.n).filter f.at_).filter fun x => !x.testBit i).all fun x => f.at_ (Krdk.flip x i)) = true from hall] at k'
    exact k'
end Bw
namespace Bw
open PySem PySem.Spec PyProof.Rows L2 Evl
variable {P : Program} {w : World} {K : PySem.W.Frag} {mg : Str → Option Value} {base : Heap} {CA CD CR : Addr}
/-! ### answer_for -/
def spAf (K : PySem.W.Frag) (C : Addr) : Sp := fun vs H Q _ => ∃ (n : Nat) (lw : Addr) (l : List Nat), vs = [.int (n : Int), .ref lw] ∧ 1 ≤ n ∧ n ≤ 5 ∧ SqL K H lw (nV l) ∧
  ∀ H' a ls, Ex H H' → AnsAt C H' a ls (Krdk.of n fun x => l.contains x) → Q (.ref a) H'
theorem in_nV (x : Nat) : ∀ l : List Nat, inV (.int (x : Int)) (nV l) = l.contains x
  | [] => rfl
  | y :: r => by
    have ih := in_nV x r
    show ((((y : Int) == (x : Int)) || inV (.int (x : Int)) (nV r))) = _
    rw [ih, List.contains_cons]
    congr 1
    rw [Bool.eq_iff_iff, beq_iff_eq, beq_iff_eq]
    omega
theorem flat_nV : ∀ l : List Nat, (nV l).all flatV = true
  | [] => rfl
  | y :: r => flat_nV r
theorem sc_af : FnScope ["many", "words", "word"] ["many", "words"] (defScope (tp 11)) := ⟨rfl, rfl, rfl, by decide +kernel, rfl, by decide +kernel, by decide +kernel⟩
theorem ok_af (D : GDef K mg "answer_for" (tp 11) ["many", "words"]) (T : Tx K mg CA CD CR) (h1 : GOk P w K mg base CX0 1 "many_words" ["many"] spMw) (h2 : KOk P w K mg base CX0 1 "Answer" CA ["self", "many", "says"] (spAI CA)) :
    GOk P w K mg base CX0 3 "answer_for" ["many", "words"] (spAf K CA) := by
  refine D.ok sc_af (fun vs H Q E h => ?_) (fun f cdv A outer s H vs Q E hr h => ?_)
  · obtain ⟨_, _, _, rfl, _⟩ := h
    rfl
  obtain ⟨n, lw, l, rfl, hn1, hn5, hl, k⟩ := h
  refine ⟨_, pss_one (ps_ret (pK h2 hr rfl pass0 (pa_cons (pv 0) (pa_cons (pe_lc (own := [("word", 2)]) (g := gName 2) (te := tOp (rIn K false) (tVar 2) (tVar 1)) rfl sc_af.nd (pi_range1 rfl T.range (pa_cons (pG h1 (hr.mono (by decide)) rfl pass0 (pa_cons (pv 0) pa_nil)) pa_nil)) (blkOk_by (N := ["many", "words", "word"]) (sc := defScope (tp 11)) (by decide +kernel))
    (fun _ _ _ _ _ => pg_name (i := 2) sc_af.nd rfl (Or.inl rfl)) (fun _ _ _ _ _ => pts_nil) (fun _ _ _ _ _ => by exact pe_cmpR op_in_seq (pv 2) (pv 1) (by rfl))) pa_nil)))), ?_⟩
  have h32 := two_le hn5
  have EL : EvL (tLc (iRng1 (tCons (tCall spMw [] E0 (tCons (tVar 0) tNil)) tNil)) (gName 2) tYes (tOp (rIn K false) (tVar 2) (tVar 1)) [2]) (L2.start ["many", "words", "word"] [.int (n : Int), .ref lw]) H ((Krdk.of n fun x => l.contains x).t.map V.bl) := by
    refine EvL.is (el_lcR1 (fun _ => true) (fun x => .bl (l.contains x)) (ea_cons (ev_callN (ea_cons (ev_var rfl) ea_nil) (v_mw hn5)) ea_nil) ⟨Int.natCast_nonneg _, by omega⟩ (fun _ => rfl) (fun x H1 e1 hx => et_yes) (fun x H1 e1 hx hf => ?_)) ?_
    · exact ev_is (ev_op (ev_var rfl) (ev_var rfl) (rv_isL (ex_l e1 hl) rfl (flat_nV l))) (by rw [in_nV])
    · rw [Int.toNat_natCast]
      show cmp (2 ^ n) (fun _ => true) (fun x => V.bl (l.contains x)) = _
      rw [cmp_true]
      unfold Krdk.of Krdk.words
      rw [List.map_map]
      rfl
  refine ⟨_, rfl, EL H (Ex.refl H) _ fun q H1 nq e1 hq x dx nx nd ne => ?_⟩
  refine ⟨x, dx, q, n, rfl, upd_same, fun H2 h2 kp => ⟨rfl, ?_⟩⟩
  have kp' : ∀ b o, H1 b = some o → H2 b = some o := fun b o e => kp b o (by rw [upd_ne (ne_of_none e nx), upd_ne (ne_of_none e nd)]; exact e) (ne_of_none e nx)
  exact k H2 x q (e1.trans kp') ⟨⟨dx, h2⟩, kp' _ _ hq, of_ok _ hn1 hn5⟩
/-! ### Refused, want -/
def spRI (CR : Addr) : Sp := fun vs H Q _ => ∃ (a : Addr) (r : Int), vs = [.ref a, .int r] ∧ H a = some (exo a CR none) ∧
  ∀ dx, H dx = none → dx ≠ a → Q .non (upd (upd H dx (exd dx [("refusal", .int r)])) a (exo a CR (some dx)))
theorem sc_rI : FnScope ["self", "refusal"] ["self", "refusal"] (defScope (inClass (tp 19) 0)) := ⟨rfl, rfl, rfl, by decide +kernel, rfl, by decide +kernel, by decide +kernel⟩
theorem ok_rI {fI : Addr} {fd : FuncData} (F : Fun K "__init__" "Refused.__init__" (inClass (tp 19) 0) fI fd) (T : Tx K mg CA CD CR) : FnOk P w K mg base CX0 1 fI fd ["self", "refusal"] (spRI CR) := by
  refine F.ok sc_rI (fun vs H Q E h => ?_) (fun cdv A outer s H vs Q E hr h => ?_)
  · obtain ⟨_, _, rfl, _⟩ := h
    rfl
  obtain ⟨a, r, rfl, ha, k⟩ := h
  refine ⟨_, pss_cons (ps_expr (pe_veinit (by rfl) T.ve T.vV (pa_cons (pv 0) (pa_cons pe_str pa_nil)))) (pss_one (ps_ost (pv 0) (pv 1))), ?_⟩
  refine ⟨_, rfl, a, CR, [_], rfl, (by show 1 ≤ 1000; decide), T.oex, ha, ?_⟩
  exact ⟨_, rfl, _, rfl, a, CR, rfl, T.oex, T.nR, .inl ⟨ha, k⟩⟩
/-- a refusal by the number r, the heap as it was -/
def Refuse (CR : Addr) (r : Int) (H : Hp) (E : XK) : Prop := ∀ H' e, Ex H H' → H' e = some (.xd [(("refusal" : Str), V.int r)]) → E (.ref CR) (some e) H'
theorem Refuse.up {r : Int} {H H' : Hp} {E : XK} (h : Refuse CR r H E) (e : Ex H H') : Refuse CR r H' E := fun H2 x e2 hx => h H2 x (e.trans e2) hx
def spWa (CR : Addr) : Sp := fun vs H Q E => ∃ (b : Bool) (r : Int), vs = [.bl b, .int r] ∧ (b = true → ∀ H', Ex H H' → Q .non H') ∧ (b = false → Refuse CR r H E)
theorem sc_wa : FnScope ["is_so", "refusal"] ["is_so", "refusal"] (defScope (tp 20)) := ⟨rfl, rfl, rfl, by decide +kernel, rfl, by decide +kernel, by decide +kernel⟩
theorem ok_wa (D : GDef K mg "want" (tp 20) ["is_so", "refusal"]) (T : Tx K mg CA CD CR) {fI : Addr} {fd : FuncData} (iC : PySem.W.findIn K (.ref CR) "__init__" = some (some (.ref fI))) (tI : PySem.W.typeIn K (.ref fI) = some (.type "function"))
    (F : Fun K "__init__" "Refused.__init__" (inClass (tp 19) 0) fI fd) (b : Binds K fd ["self", "refusal"] []) : GOk P w K mg base (L2.CX P w) 3 "want" ["is_so", "refusal"] (spWa CR) := by
  have G : FnOk P w K mg base CX0 1 fI fd ["self", "refusal"] (spRI CR) := ok_rI F T
  refine D.okX sc_wa (fun vs H Q E h => ?_) (fun f cdv A outer s H vs Q E hr h => ?_)
  · obtain ⟨_, _, rfl, _⟩ := h
    rfl
  obtain ⟨c, r, rfl, k1, k2⟩ := h
  refine ⟨_, pss_one (ps_if (pt_not (pt_val (pv 0))) (pss_one (ps_raise rfl (takes_of rfl rfl rfl rfl) (pmk_oex T.oex iC tI G hr b .nil pass0 rfl T.gR (pa_cons (pv 1) pa_nil)))) pss_nil), ?_⟩
  refine s_when (et_not (et_B (ev_var rfl))) (fun hb H1 e1 => ?_) (fun hb H1 e1 => k1 (by simpa using hb) H1 e1)
  have hc : c = false := by simpa using hb
  refine ⟨_, rfl, (by show 1 ≤ 1000; decide), fun a na => ?_⟩
  refine ⟨a, r, rfl, upd_same, fun dx nd ne => ⟨rfl, dx, [("refusal", .int r)], upd_same, ?_, ?_, ?_⟩⟩
  · rw [upd_ne ne, upd_same]
  · rw [upd_ne ne] at nd
    exact nd
  · rw [upd_ne ne] at nd
    refine k2 hc _ dx (fun b o e => ?_) upd_same
    have e' := e1 b o e
    rw [upd_ne (ne_of_none e' nd), del_ne (ne_of_none e' na), upd_ne (ne_of_none e' na), upd_ne (ne_of_none e' nd), upd_ne (ne_of_none e' na)]
    exact e'
/-- want(..) as a statement -/
theorem q_want {b : Bool} {r : Int} {te tr : TE} {σ : L2.St} {H : Hp} {tz : TS} {D : Ends} {E : XK} (h1 : Ev te σ H (.bl b)) (h2 : Ev tr σ H (.int r)) (ht : b = true → ∀ H1, Ex H H1 → tz D σ H1) (hf : b = false → Refuse CR r H E) :
    tSeq (tDrop (tCall (spWa CR) [] E (tCons te (tCons tr tNil)))) tz D σ H :=
  h1 H (Ex.refl H) _ fun H1 e1 => h2 H1 e1 _ fun H2 e2 => ⟨b, r, rfl, fun hb H3 e3 => ht hb H3 ((e1.trans e2).trans e3), fun hb => (hf hb).up (e1.trans e2)⟩
theorem s_want {b : Bool} {r : Int} {te tr : TE} {σ : L2.St} {H : Hp} {D : Ends} {E : XK} (h1 : Ev te σ H (.bl b)) (h2 : Ev tr σ H (.int r)) (ht : b = true → ∀ H1, Ex H H1 → D.nx σ H1) (hf : b = false → Refuse CR r H E) :
    tDrop (tCall (spWa CR) [] E (tCons te (tCons tr tNil))) D σ H :=
  h1 H (Ex.refl H) _ fun H1 e1 => h2 H1 e1 _ fun H2 e2 => ⟨b, r, rfl, fun hb H3 e3 => ht hb H3 ((e1.trans e2).trans e3), fun hb => (hf hb).up (e1.trans e2)⟩
/-! ### the desk -/
structure DeskOn (CD CA : Addr) (H : Hp) (d a ls : Addr) (f : Krdk.Answer) : Prop where
  at_ : ∃ dx, H d = some (.ins CD dx (dF (.ref a)))
  ans : AnsAt CA H a ls f
theorem DeskOn.up {H H' : Hp} {d a ls : Addr} {f : Krdk.Answer} (h : DeskOn CD CA H d a ls f) (e : Ex H H') : DeskOn CD CA H' d a ls f := ⟨let ⟨dx, q⟩ := h.at_; ⟨dx, e _ _ q⟩, h.ans.up e⟩
theorem desk_on {H : Hp} {d : Addr} {f : Krdk.Answer} (h : DeskAt CD CA H d (some f)) : ∃ a ls, DeskOn CD CA H d a ls f := by
  obtain ⟨dx, a, ls, h1, h2⟩ := h
  exact ⟨a, ls, ⟨dx, h1⟩, h2⟩
theorem DeskOn.desk {H : Hp} {d a ls : Addr} {f : Krdk.Answer} (h : DeskOn CD CA H d a ls f) : DeskAt CD CA H d (some f) := by
  obtain ⟨dx, h1⟩ := h.at_
  exact ⟨dx, a, ls, h1, h.ans⟩
section
variable {d a ls : Addr} {f : Krdk.Answer} {H : Hp} {σ : L2.St} {to : TE} {t : TA} {m : Str} {sp : Sp} {vs xs : List V} {z : V} {E : XK}
theorem ev_own (T : Tx K mg CA CD CR) (h : DeskOn CD CA H d a ls f) (ho : Ev to σ H (.ref d)) : Ev (tFld K to "own") σ H (.ref a) := by
  obtain ⟨dx, q⟩ := h.at_
  exact ev_fld ho q T.cD T.nO (dF_own _)
theorem ev_mD (h : DeskOn CD CA H d a ls f) (ho : Ev to σ H (.ref d)) (ha : EvA t σ H vs) (hs : SpV sp (.ref d :: vs) H z) (h1 : (m == ("own" : Str)) = false := by decide +kernel) : Ev (tMeth CD m sp [] E to t) σ H z := by
  obtain ⟨dx, q⟩ := h.at_
  exact ev_meth ho q (dF_none h1) ha hs
theorem el_mD (h : DeskOn CD CA H d a ls f) (ho : Ev to σ H (.ref d)) (ha : EvA t σ H vs) (hs : SpL sp (.ref d :: vs) H xs) (h1 : (m == ("own" : Str)) = false := by decide +kernel) : EvL (tMeth CD m sp [] E to t) σ H xs := by
  obtain ⟨dx, q⟩ := h.at_
  exact el_meth ho q (dF_none h1) ha hs
end
def spDI (C : Addr) : Sp := fun vs H Q _ => ∃ (p dx : Addr), vs = [.ref p] ∧ H p = some (.ins C dx []) ∧
  ∀ H' : Hp, H' p = some (.ins C dx (dF .non)) → (∀ b o, H b = some o → b ≠ p → H' b = some o) → Q .non H'
theorem sc_di : FnScope ["self"] ["self"] (defScope (sD 0)) := ⟨rfl, rfl, rfl, by decide +kernel, rfl, by decide +kernel, by decide +kernel⟩
theorem ok_di {fI : Addr} {fd : FuncData} (F : Fun K "__init__" "Desk.__init__" (sD 0) fI fd) (T : Tx K mg CA CD CR) : FnOk P w K mg base CX0 1 fI fd ["self"] (spDI CD) := by
  refine F.ok sc_di (fun vs H Q E h => ?_) (fun cdv A outer s H vs Q E hr h => ?_)
  · obtain ⟨p, dx, rfl, _⟩ := h
    rfl
  obtain ⟨p, dx, rfl, hp, k⟩ := h
  refine ⟨_, pss_one (ps_fld (pv 0) pe_non rfl), ?_⟩
  refine ⟨_, rfl, p, CD, dx, [], rfl, hp, T.cD, T.nO, (by show 0 < 1000; decide), ?_⟩
  refine k _ upd_same fun b o e hb => ?_
  rw [upd_ne hb]
  exact e
/-- Desk.answer -/
def spAn (CD CA CR : Addr) : Sp := fun vs H Q E => ∃ d : Addr, vs = [.ref d] ∧ ((DeskAt CD CA H d none ∧ Refuse CR (-11) H E) ∨ ∃ a ls f, DeskOn CD CA H d a ls f ∧ ∀ H', Ex H H' → Q (.ref a) H')
theorem v_an {H : Hp} {d a ls : Addr} {f : Krdk.Answer} (h : DeskOn CD CA H d a ls f) : SpV (spAn CD CA CR) [.ref d] H (.ref a) := fun H1 e Q q E => ⟨d, rfl, .inr ⟨a, ls, f, h.up e, q⟩⟩
theorem sc_an : FnScope ["self"] ["self"] (defScope (sD 1)) := ⟨rfl, rfl, rfl, by decide +kernel, rfl, by decide +kernel, by decide +kernel⟩
theorem ok_an (D : MDef K CD "answer" "Desk.answer" (sD 1) ["self"]) (T : Tx K mg CA CD CR) (h1 : GOk P w K mg base (L2.CX P w) 3 "want" ["is_so", "refusal"] (spWa CR)) : MOk P w K mg base (L2.CX P w) 4 CD "answer" ["self"] (spAn CD CA CR) := by
  refine D.okX sc_an (fun vs H Q E h => ?_) (fun f cdv A outer s H vs Q E hr h => ?_)
  · obtain ⟨_, rfl, _⟩ := h
    rfl
  obtain ⟨d, rfl, h⟩ := h
  refine ⟨_, pss_cons (ps_expr (pG h1 hr rfl (passes_call (takes_of rfl rfl rfl rfl) fun _ _ _ _ z => z) (pa_cons (pe_cmpR op_notN (pe_fld (pv 0) rfl) pe_non (nomark _)) (pa_cons (pk T.kNG rfl) pa_nil))))
    (pss_one (ps_ret (pe_fld (pv 0) rfl))), ?_⟩
  rcases h with ⟨⟨dx, hd⟩, k⟩ | ⟨a, ls, f, hD, k⟩
  · refine q_want (b := false) (r := -11) (fun H1 e Q q => ⟨_, rfl, d, CD, dx, _, _, rfl, e _ _ hd, T.cD, T.nO, dF_own _, rfl, q H1 (Ex.refl H1)⟩) ev_c (fun hb => Bool.noConfusion hb) (fun _ => k)
  · obtain ⟨dx, hd⟩ := hD.at_
    refine q_want (b := true) (r := -11) (fun H1 e Q q => ⟨_, rfl, d, CD, dx, _, _, rfl, e _ _ hd, T.cD, T.nO, dF_own _, rfl, q H1 (Ex.refl H1)⟩) ev_c (fun _ H1 e1 => ?_) (fun hb => Bool.noConfusion hb)
    exact s_ret (ev_own T (hD.up e1) (ev_var rfl)) fun H2 e2 => k H2 (e1.trans e2)
/-- is_word, want_bit, all_words, of a desk that has begun -/
def spIw (CD CA : Addr) : Sp := fun vs H Q _ => ∃ d a ls f x, vs = [.ref d, .int ((x : Nat) : Int)] ∧ DeskOn CD CA H d a ls f ∧ ∀ H', Ex H H' → Q (.bl (decide (x < 2 ^ f.n))) H'
theorem v_iw {H : Hp} {d a ls : Addr} {f : Krdk.Answer} {x : Nat} (h : DeskOn CD CA H d a ls f) : SpV (spIw CD CA) [.ref d, .int (x : Int)] H (.bl (decide (x < 2 ^ f.n))) := fun H1 e Q q E => ⟨d, a, ls, f, x, rfl, h.up e, q⟩
theorem sc_iw : FnScope ["self", "number"] ["self", "number"] (defScope (sD 4)) := ⟨rfl, rfl, rfl, by decide +kernel, rfl, by decide +kernel, by decide +kernel⟩
theorem ok_iw (D : MDef K CD "is_word" "Desk.is_word" (sD 4) ["self", "number"]) (T : Tx K mg CA CD CR) (h1 : MOk P w K mg base (L2.CX P w) 4 CD "answer" ["self"] (spAn CD CA CR)) (h2 : MOk P w K mg base CX0 2 CA "size" ["self"] (spSz CA)) :
    MOk P w K mg base CX0 5 CD "is_word" ["self", "number"] (spIw CD CA) := by
  refine D.ok sc_iw (fun vs H Q E h => ?_) (fun f cdv A outer s H vs Q E hr h => ?_)
  · obtain ⟨_, _, _, _, _, rfl, _⟩ := h
    rfl
  obtain ⟨d, a, ls, f, x, rfl, hD, k⟩ := h
  refine ⟨_, pss_one (ps_ret (pe_cmpR op_lt (pv 1) (pM0 h2 T.cA (hr.mono (by decide)) pass0 (pM0 h1 T.cD hr passL (pv 0))) (nomark _))), ?_⟩
  refine s_ret (ev_op (ev_var rfl) (ev_mA hD.ans (ev_mD hD (ev_var rfl) ea_nil (v_an hD)) ea_nil (v1 hD.ans)) rv_I0) fun H1 e1 => ?_
  have z : decide ((x : Int) < ((2 ^ f.n : Nat) : Int)) = decide (x < 2 ^ f.n) := by
    rw [Bool.eq_iff_iff, decide_eq_true_iff, decide_eq_true_iff]
    omega
  rw [z]
  exact k H1 e1
def spWb (CD CA CR : Addr) : Sp := fun vs H Q E => ∃ d a ls f i, vs = [.ref d, .int ((i : Nat) : Int)] ∧ DeskOn CD CA H d a ls f ∧ (i < f.n → ∀ H', Ex H H' → Q .non H') ∧ (f.n ≤ i → Refuse CR (-2) H E)
theorem sc_wb : FnScope ["self", "i"] ["self", "i"] (defScope (sD 5)) := ⟨rfl, rfl, rfl, by decide +kernel, rfl, by decide +kernel, by decide +kernel⟩
theorem ok_wb (D : MDef K CD "want_bit" "Desk.want_bit" (sD 5) ["self", "i"]) (T : Tx K mg CA CD CR) (h1 : MOk P w K mg base (L2.CX P w) 4 CD "answer" ["self"] (spAn CD CA CR)) (h2 : GOk P w K mg base (L2.CX P w) 3 "want" ["is_so", "refusal"] (spWa CR)) :
    MOk P w K mg base (L2.CX P w) 5 CD "want_bit" ["self", "i"] (spWb CD CA CR) := by
  refine D.okX sc_wb (fun vs H Q E h => ?_) (fun f cdv A outer s H vs Q E hr h => ?_)
  · obtain ⟨_, _, _, _, _, rfl, _⟩ := h
    rfl
  obtain ⟨d, a, ls, f, i, rfl, hD, k1, k2⟩ := h
  refine ⟨_, pss_one (ps_expr (pG h2 (hr.mono (by decide)) rfl (passes_call (takes_of rfl rfl rfl rfl) fun _ _ _ _ z => z) (pa_cons (pe_cmpR op_lt (pv 1) (pe_fld (pM0 h1 T.cD hr passL (pv 0)) rfl) (nomark _)) (pa_cons (pk T.kNB rfl) pa_nil)))), ?_⟩
  refine s_want (ev_op (ev_var rfl) (ev_many T hD.ans (ev_mD hD (ev_var rfl) ea_nil (v_an hD))) rv_I0) ev_c (fun hb H1 e1 => k1 ?_ H1 e1) (fun hb => k2 ?_)
  · have := of_decide_eq_true hb
    omega
  · have := of_decide_eq_false hb
    omega
def spAw (CD CA : Addr) : Sp := fun vs H Q _ => ∃ d a ls f, vs = [.ref d] ∧ DeskOn CD CA H d a ls f ∧ ∀ p H', H p = none → Ex H H' → H' p = some (.lst (nV (Krdk.words f.n))) → Q (.ref p) H'
theorem v_aw {H : Hp} {d a ls : Addr} {f : Krdk.Answer} (h : DeskOn CD CA H d a ls f) : SpL (spAw CD CA) [.ref d] H (nV (Krdk.words f.n)) := fun H1 e Q q E => ⟨d, a, ls, f, rfl, h.up e, q⟩
theorem sc_aw : FnScope ["self"] ["self"] (defScope (sD 6)) := ⟨rfl, rfl, rfl, by decide +kernel, rfl, by decide +kernel, by decide +kernel⟩
theorem ok_aw (D : MDef K CD "all_words" "Desk.all_words" (sD 6) ["self"]) (T : Tx K mg CA CD CR) (h1 : MOk P w K mg base (L2.CX P w) 4 CD "answer" ["self"] (spAn CD CA CR)) (h2 : MOk P w K mg base CX0 2 CA "size" ["self"] (spSz CA)) :
    MOk P w K mg base CX0 5 CD "all_words" ["self"] (spAw CD CA) := by
  refine D.ok sc_aw (fun vs H Q E h => ?_) (fun f cdv A outer s H vs Q E hr h => ?_)
  · obtain ⟨_, _, _, _, rfl, _⟩ := h
    rfl
  obtain ⟨d, a, ls, f, rfl, hD, k⟩ := h
  refine ⟨_, pss_one (ps_ret (pe_listRg rfl rfl T.list (prg_1 rfl T.range (pM0 h2 T.cA (hr.mono (by decide)) pass0 (pM0 h1 T.cD hr passL (pv 0)))))), ?_⟩
  have h32 := hD.ans.ok.size
  exact s_retL (el_listRg (ev_mA hD.ans (ev_mD hD (ev_var rfl) ea_nil (v_an hD)) ea_nil (v1 hD.ans)) (by omega)) k
end Bw
namespace Bw
open PySem PySem.Spec PyProof.Rows L2 Evl
variable {P : Program} {w : World} {K : PySem.W.Frag} {mg : Str → Option Value} {base : Heap} {CA CD CR : Addr}
/-! ### what a call does -/
/-- the desk at d holds x, a new list l is handed back, all else stands -/
def Does (CD CA : Addr) (H : Hp) (d : Addr) (x : Option Krdk.Answer) (l : List Int) (Q : VK) : Prop :=
  ∀ H' p, DeskAt CD CA H' d x → (∀ b o, H b = some o → b ≠ d → H' b = some o) → H p = none → H' p = some (.lst (l.map V.int)) → Q (.ref p) H'
theorem Does.up {H H1 : Hp} {d : Addr} {x : Option Krdk.Answer} {l : List Int} {Q : VK} (h : Does CD CA H d x l Q) (e : Ex H H1) : Does CD CA H1 d x l Q := fun H' p h1 h2 h3 h4 => h H' p h1 (fun b o q n => h2 b o (e b o q) n) (fresh_back e h3) h4
/-- where the desk is left as it was -/
theorem Does.same {H : Hp} {d a ls : Addr} {f : Krdk.Answer} {l : List Int} {Q : VK} (h : Does CD CA H d (some f) l Q) (hD : DeskOn CD CA H d a ls f) {p : Addr} {H' : Hp} (n : H p = none) (e : Ex H H') (hp : H' p = some (.lst (l.map V.int))) : Q (.ref p) H' :=
  h H' p (hD.up e).desk (fun b o q _ => e b o q) n hp
structure Out (CD CA CR d : Addr) (H : Hp) (Q : VK) (E : XK) (y : Krdk.Abs × Krdk.Ans) : Prop where
  no : y.2.num < 0 → Refuse CR y.2.num H E
  yes : 0 ≤ y.2.num → Does CD CA H d y.1 (KrdkNeutral.told y.2) Q
section
variable {d : Addr} {H : Hp} {Q : VK} {E : XK} {x : Krdk.Abs} {r : Int} {a : Krdk.Ans}
theorem Out.refuse (k : Out CD CA CR d H Q E (x, Krdk.say r)) (h : r < 0) : Refuse CR r H E := k.no h
theorem Out.does (k : Out CD CA CR d H Q E (x, a)) (h : 0 ≤ a.num) : Does CD CA H d x (KrdkNeutral.told a) Q := k.yes h
end
theorem desk_ins {H : Hp} {d : Addr} {x : Option Krdk.Answer} (h : DeskAt CD CA H d x) : ∃ dx v, H d = some (.ins CD dx (dF v)) := by
  cases x with
  | none =>
    obtain ⟨dx, q⟩ := h
    exact ⟨dx, _, q⟩
  | some f =>
    obtain ⟨dx, a, ls, q, _⟩ := h
    exact ⟨dx, _, q⟩
/-- another answer is put in -/
theorem desk_put {H : Hp} {d dx a ls : Addr} {v : V} {f : Krdk.Answer} (h : H d = some (.ins CD dx (dF v))) (hA : AnsAt CA H a ls f) : DeskOn CD CA (upd H d (.ins CD dx (dF (.ref a)))) d a ls f := by
  obtain ⟨dx', q⟩ := hA.at_
  have n1 : a ≠ d := ne_of q h (by intro z; injection z with _ _ z3; exact absurd (congrArg List.length z3) (by show ¬ (2 = 1); decide))
  have n2 : ls ≠ d := ne_of hA.says h (by intro z; cases z)
  exact ⟨⟨dx, upd_same⟩, ⟨⟨dx', by rw [upd_ne n1]; exact q⟩, by rw [upd_ne n2]; exact hA.says, hA.ok⟩⟩
theorem dF_put (v y : V) : putF "own" y (dF v) = dF y := if_pos rfl
theorem filt_contains {n x : Nat} {p : Nat → Bool} (h : x < 2 ^ n) : ((Krdk.words n).filter p).contains x = p x := by
  rw [Bool.eq_iff_iff, List.contains_iff_mem, List.mem_filter]
  exact ⟨fun z => z.2, fun z => ⟨List.mem_range.mpr h, z⟩⟩
theorem of_filter (n : Nat) (p : Nat → Bool) : Krdk.of n (fun x => ((Krdk.words n).filter p).contains x) = Krdk.of n p := of_congr fun x hx => filt_contains hx
/-- self.own = .., of a value that is an answer -/
theorem q_own {H : Hp} {d dx : Addr} {v : V} {g : Krdk.Answer} {σ : L2.St} {to tv : TE} {tz : TS} {D : Ends} (T : Tx K mg CA CD CR) (hd : H d = some (.ins CD dx (dF v))) (ho : Ev to σ H (.ref d))
    (hv : ∀ Q : VK, (∀ a' ls' H2, Ex H H2 → AnsAt CA H2 a' ls' g → Q (.ref a') H2) → tv σ H Q)
    (k : ∀ a' ls' H2, Ex H H2 → DeskOn CD CA (upd H2 d (.ins CD dx (dF (.ref a')))) d a' ls' g → tz D σ (upd H2 d (.ins CD dx (dF (.ref a'))))) : tSeq (sFld K to tv "own") tz D σ H :=
  hv _ fun a' ls' H2 e2 hA' => ho H2 e2 _ fun H3 e3 => ⟨d, CD, dx, _, rfl, e3 _ _ (e2 _ _ hd), T.cD, T.nO, (by show 1 < 1000; decide), by
    rw [dF_put]
    exact k a' ls' H3 (e2.trans e3) (desk_put (e3 _ _ (e2 _ _ hd)) (hA'.up e3))⟩
theorem af_call {H : Hp} {lw : Addr} {n : Nat} {l : List Nat} {σ : L2.St} {ta : TA} {E : XK} (ha : EvA ta σ H [.int (n : Int), .ref lw]) (h1 : 1 ≤ n) (h5 : n ≤ 5) (hl : SqL K H lw (nV l)) (Q : VK)
    (q : ∀ a' ls' H2, Ex H H2 → AnsAt CA H2 a' ls' (Krdk.of n fun x => l.contains x) → Q (.ref a') H2) : tCall (spAf K CA) [] E ta σ H Q :=
  ha H (Ex.refl H) _ fun H1 e1 => ⟨n, lw, l, rfl, h1, h5, ex_l e1 hl, fun H2 a' ls' e2 hA => q a' ls' H2 (e1.trans e2) hA⟩
theorem af_callL {H : Hp} {n : Nat} {l : List Nat} {σ : L2.St} {ta te : TE} {E : XK} (ha : Ev ta σ H (.int (n : Int))) (he : EvL te σ H (nV l)) (h1 : 1 ≤ n) (h5 : n ≤ 5) (Q : VK)
    (q : ∀ a' ls' H2, Ex H H2 → AnsAt CA H2 a' ls' (Krdk.of n fun x => l.contains x) → Q (.ref a') H2) : tCall (spAf K CA) [] E (tCons ta (tCons te tNil)) σ H Q :=
  ha H (Ex.refl H) _ fun H1 e1 => he H1 e1 _ fun p H2 np e2 hp => ⟨n, p, l, rfl, h1, h5, sq_of hp, fun H3 a' ls' e3 hA => q a' ls' H3 ((e1.trans e2).trans e3) hA⟩
/-- behind a put: what is handed back -/
theorem put_end {H H2 H4 : Hp} {d dx a' ls' p : Addr} {g : Krdk.Answer} {l : List Int} {Q : VK} (k : Does CD CA H d (some g) l Q) (e2 : Ex H H2) (hD3 : DeskOn CD CA (upd H2 d (.ins CD dx (dF (.ref a')))) d a' ls' g)
    (np : upd H2 d (.ins CD dx (dF (.ref a'))) p = none) (e4 : Ex (upd H2 d (.ins CD dx (dF (.ref a')))) H4) (hp : H4 p = some (.lst (l.map V.int))) : Q (.ref p) H4 := by
  refine k H4 p (hD3.up e4).desk (fun b o q nb => e4 b o (by rw [upd_ne nb]; exact e2 _ _ q)) ?_ hp
  have n2 : p ≠ d := fun z => by
    rw [z, upd_same] at np
    cases np
  rw [upd_ne n2] at np
  exact fresh_back e2 np
/-! ### put -/
def spPu (K : PySem.W.Frag) (CD CA : Addr) : Sp := fun vs H Q _ => ∃ d a ls f lw l, vs = [.ref d, .ref lw] ∧ DeskOn CD CA H d a ls f ∧ SqL K H lw (nV l) ∧ Does CD CA H d (some (Krdk.of f.n fun x => l.contains x)) [((Krdk.of f.n fun x => l.contains x).yes : Int)] Q
theorem sc_pu : FnScope ["self", "words"] ["self", "words"] (defScope (sD 3)) := ⟨rfl, rfl, rfl, by decide +kernel, rfl, by decide +kernel, by decide +kernel⟩
theorem ok_pu (D : MDef K CD "put" "Desk.put" (sD 3) ["self", "words"]) (T : Tx K mg CA CD CR) (h1 : GOk P w K mg base CX0 3 "answer_for" ["many", "words"] (spAf K CA)) (h2 : MOk P w K mg base CX0 2 CA "many_yes" ["self"] (spMy CA)) :
    MOk P w K mg base CX0 4 CD "put" ["self", "words"] (spPu K CD CA) := by
  refine D.ok sc_pu (fun vs H Q E h => ?_) (fun _ cdv A outer s H vs Q E hr h => ?_)
  · obtain ⟨_, _, _, _, _, _, rfl, _⟩ := h
    rfl
  obtain ⟨d, a, ls, f, lw, l, rfl, hD, hl, k⟩ := h
  refine ⟨_, pss_cons (ps_fld (pv 0) (pG h1 hr rfl pass0 (pa_cons (pe_fld (pe_fld (pv 0) rfl) rfl) (pa_cons (pv 1) pa_nil))) rfl)
    (pss_one (ps_ret (pe_lst (pa_cons (pM0 h2 T.cA (hr.mono (by decide)) pass0 (pe_fld (pv 0) rfl)) pa_nil)))), ?_⟩
  have o := hD.ans.ok
  obtain ⟨dx, hd⟩ := hD.at_
  refine q_own T hd (ev_var rfl) (af_call (ea_cons (ev_many T hD.ans (ev_own T hD (ev_var rfl))) (ea_cons (ev_var rfl) ea_nil)) o.lo o.hi hl) fun a' ls' H2 e2 hD3 => ?_
  exact s_retL (el_lst (ea_cons (ev_mA hD3.ans (ev_own T hD3 (ev_var rfl)) ea_nil (v1 hD3.ans)) ea_nil) (by show 1 ≤ 100000; decide)) fun p H4 np e4 hp => put_end k e2 hD3 np e4 hp
theorem s_put {d a ls : Addr} {f : Krdk.Answer} {l : List Nat} {H : Hp} {σ : L2.St} {to te : TE} {D : Ends} {E : XK} (hD : DeskOn CD CA H d a ls f) (ho : Ev to σ H (.ref d)) (hl : EvL te σ H (nV l))
    (k : Does CD CA H d (some (Krdk.of f.n fun x => l.contains x)) [((Krdk.of f.n fun x => l.contains x).yes : Int)] D.rt) : tRet (tMeth CD "put" (spPu K CD CA) [] E to (tCons te tNil)) D σ H := by
  obtain ⟨dx, hd⟩ := hD.at_
  refine ho H (Ex.refl H) _ fun H1 e1 => ⟨d, dx, _, rfl, e1 _ _ hd, dF_none (by decide +kernel), hl H1 e1 _ fun q H2 nq e2 hq => ?_⟩
  exact ⟨d, a, ls, f, q, l, rfl, hD.up (e1.trans e2), sq_of hq, k.up (e1.trans e2)⟩
theorem s_putV {d a ls lw : Addr} {f : Krdk.Answer} {l : List Nat} {H : Hp} {σ : L2.St} {to te : TE} {D : Ends} {E : XK} (hD : DeskOn CD CA H d a ls f) (ho : Ev to σ H (.ref d)) (he : Ev te σ H (.ref lw)) (hl : SqL K H lw (nV l))
    (k : Does CD CA H d (some (Krdk.of f.n fun x => l.contains x)) [((Krdk.of f.n fun x => l.contains x).yes : Int)] D.rt) : tRet (tMeth CD "put" (spPu K CD CA) [] E to (tCons te tNil)) D σ H := by
  obtain ⟨dx, hd⟩ := hD.at_
  refine ho H (Ex.refl H) _ fun H1 e1 => ⟨d, dx, _, rfl, e1 _ _ hd, dF_none (by decide +kernel), he H1 e1 _ fun H2 e2 => ?_⟩
  exact ⟨d, a, ls, f, lw, l, rfl, hD.up (e1.trans e2), ex_l (e1.trans e2) hl, k.up (e1.trans e2)⟩
/-! ### begin -/
def spBe (CD CA CR : Addr) : Sp := fun vs H Q E => ∃ d x n, vs = [.ref d, .int ((n : Nat) : Int)] ∧ DeskAt CD CA H d x ∧ Out CD CA CR d H Q E (Krdk.act x (.begin_ n))
theorem sc_be : FnScope ["self", "n"] ["self", "n"] (defScope (sD 2)) := ⟨rfl, rfl, rfl, by decide +kernel, rfl, by decide +kernel, by decide +kernel⟩
theorem ok_be (D : MDef K CD "begin" "Desk.begin" (sD 2) ["self", "n"]) (T : Tx K mg CA CD CR) (h1 : GOk P w K mg base CX0 3 "answer_for" ["many", "words"] (spAf K CA)) (h2 : GOk P w K mg base (L2.CX P w) 3 "want" ["is_so", "refusal"] (spWa CR)) :
    MOk P w K mg base (L2.CX P w) 4 CD "begin" ["self", "n"] (spBe CD CA CR) := by
  refine D.okX sc_be (fun vs H Q E h => ?_) (fun _ cdv A outer s H vs Q E hr h => ?_)
  · obtain ⟨_, _, _, rfl, _⟩ := h
    rfl
  obtain ⟨d, x, n, rfl, hd, k⟩ := h
  refine ⟨_, pss_cons (ps_expr (pG h2 hr rfl (passes_call (takes_of rfl rfl rfl rfl) fun _ _ _ _ z => z) (pa_cons (pe_chain op_le op_le pe_int (pv 1) (pk T.kMB rfl)) (pa_cons (pk T.kNR rfl) pa_nil))))
    (pss_cons (ps_fld (pv 0) (pG h1 hr rfl pass0 (pa_cons (pv 1) (pa_cons (pe_lst pa_nil) pa_nil))) rfl) (pss_one (ps_ret (pe_lst (pa_cons pe_int pa_nil))))), ?_⟩
  have e : Krdk.act x (.begin_ n) = if (decide (n = 0) || decide (5 < n)) = true then (x, Krdk.say (-22)) else (some (Krdk.of n fun _ => false), Krdk.say 0) := by
    cases x <;> rfl
  refine q_want (b := decide (1 ≤ n ∧ n ≤ 5)) (r := -22) (fun H1 e1 Q1 q1 => ⟨_, rfl, _, _, rfl, rfl, _, rfl, ?_⟩) ev_c (fun hb H1 e1 => ?_) (fun hb => ?_)
  · by_cases c : (1 : Int) ≤ (n : Int)
    · rw [if_pos (decide_eq_true c)]
      refine ⟨_, _, rfl, rfl, ?_⟩
      have z : decide ((n : Int) ≤ 5) = decide (1 ≤ n ∧ n ≤ 5) := by
        rw [Bool.eq_iff_iff, decide_eq_true_iff, decide_eq_true_iff]
        omega
      show Q1 (V.bl (decide ((n : Int) ≤ 5))) H1
      rw [z]
      exact q1 H1 (Ex.refl H1)
    · rw [if_neg (by simpa using c)]
      have z : false = decide (1 ≤ n ∧ n ≤ 5) := by
        refine (decide_eq_false ?_).symm
        omega
      rw [z]
      exact q1 H1 (Ex.refl H1)
  · have hn := of_decide_eq_true hb
    rw [if_neg (by intro z; rw [Bool.or_eq_true, decide_eq_true_iff, decide_eq_true_iff] at z; omega)] at e
    rw [e] at k
    have k2 := k.does (by show (0 : Int) ≤ 0; decide)
    obtain ⟨dx, v, hv⟩ := desk_ins hd
    refine q_own T (e1 _ _ hv) (ev_var rfl) (af_callL (l := []) (ev_var rfl) (el_lst ea_nil (by show 0 ≤ 100000; decide)) hn.1 hn.2) fun a' ls' H2 e2 hD3 => ?_
    exact s_retL (el_lst (ea_cons ev_c ea_nil) (by show 1 ≤ 100000; decide)) fun p H4 np e4 hp => put_end k2 (e1.trans e2) hD3 np e4 hp
  · have hn := of_decide_eq_false hb
    rw [if_pos (by rw [Bool.or_eq_true, decide_eq_true_iff, decide_eq_true_iff]; omega)] at e
    rw [e] at k
    exact k.refuse (by decide)
/-! ### told -/
def spTo (K : PySem.W.Frag) (CD CA CR : Addr) : Sp := fun vs H Q E => ∃ d f lw l, vs = [.ref d, .ref lw] ∧ DeskAt CD CA H d (some f) ∧ SqL K H lw (nV l) ∧ l.length ≤ 20000 ∧ Out CD CA CR d H Q E (Krdk.act (some f) (.told l))
theorem sc_to : FnScope ["self", "words", "word"] ["self", "words"] (defScope (sD 7)) := ⟨rfl, rfl, rfl, by decide +kernel, rfl, by decide +kernel, by decide +kernel⟩
theorem nV_list {l : List Nat} {β : Type} (p : Nat → Bool) (g : Nat → β) : cmp (nV l).length (fun j => p (l.getD j 0)) (fun j => g (l.getD j 0)) = (l.filter p).map g := by
  rw [nV_len]
  exact cmp_list 0 l p g
theorem filter_true {α : Type} (l : List α) : l.filter (fun _ => true) = l := List.filter_eq_self.mpr fun _ _ => rfl
theorem ok_to (D : MDef K CD "told" "Desk.told" (sD 7) ["self", "words"]) (T : Tx K mg CA CD CR) (h1 : GOk P w K mg base (L2.CX P w) 3 "want" ["is_so", "refusal"] (spWa CR)) (h2 : MOk P w K mg base CX0 5 CD "is_word" ["self", "number"] (spIw CD CA))
    (h3 : MOk P w K mg base CX0 4 CD "put" ["self", "words"] (spPu K CD CA)) : MOk P w K mg base (L2.CX P w) 6 CD "told" ["self", "words"] (spTo K CD CA CR) := by
  refine D.okX sc_to (fun vs H Q E h => ?_) (fun _ cdv A outer s H vs Q E hr h => ?_)
  · obtain ⟨_, _, _, _, rfl, _⟩ := h
    rfl
  obtain ⟨d, f, lw, l, rfl, hd, hl, hlen, k⟩ := h
  obtain ⟨a, ls, hD⟩ := desk_on hd
  refine ⟨_, pss_cons (ps_expr (pG h1 (hr.mono (by decide)) rfl (passes_call (takes_of rfl rfl rfl rfl) fun _ _ _ _ z => z) (pa_cons
      (pe_and (pe_cmpR op_le (pe_callB call_len_seq (by rfl) T.len (by decide +kernel) (pa_cons (pv 1) pa_nil)) (pk T.kMT rfl) (nomark _)) (pe_one (pe_callB (cr_all rfl) (by rfl) T.all (by decide +kernel) (pa_cons
        (pe_lc (own := [("word", 2)]) (g := gName 2) rfl sc_to.nd (pi_list (pv 1)) (blkOk_by (N := ["self", "words", "word"]) (sc := defScope (sD 7)) (by decide +kernel))
          (fun _ _ _ _ _ => pg_name (i := 2) sc_to.nd rfl (Or.inl rfl)) (fun _ _ _ _ _ => pts_nil) (fun _ _ _ _ _ => pM h2 T.cD hr pass0 (pv 0) (pa_cons (pv 2) pa_nil))) pa_nil)))) (pa_cons (pk T.kNR rfl) pa_nil))))
    (pss_one (ps_ret (pM h3 T.cD (hr.mono (by decide)) pass0 (pv 0) (pa_cons (pv 1) pa_nil)))), ?_⟩
  have e : Krdk.act (some f) (.told l) = if (decide (32 < l.length) || !(l.all fun x => !decide (2 ^ f.n ≤ x))) = true then (some f, Krdk.say (-22)) else (some (Krdk.of f.n fun x => l.contains x), Krdk.nat (Krdk.of f.n fun x => l.contains x).yes) := rfl
  have eb : (decide (32 < l.length) || !(l.all fun x => !decide (2 ^ f.n ≤ x))) = !(decide (((nV l).length : Int) ≤ 32) && (l.map fun x => decide (x < 2 ^ f.n)).all id) := by
    rw [nV_len, List.all_map, Bool.not_and]
    congr 1
    · rw [Bool.eq_iff_iff, Bool.not_eq_true', decide_eq_true_iff, decide_eq_false_iff_not]
      omega
    · congr 1
      refine congrArg (fun q => l.all q) (funext fun x => ?_)
      show (!decide (2 ^ f.n ≤ x)) = decide (x < 2 ^ f.n)
      rw [Bool.eq_iff_iff, Bool.not_eq_true', decide_eq_true_iff, decide_eq_false_iff_not]
      omega
  refine q_want (ev_andV (ev_op (ev_lenV (ev_var rfl) hl) ev_c rv_I0) (fun _ => ev_allN (bs := l.map fun x => decide (x < 2 ^ f.n)) (EvL.is (el_lcL (fun _ => true) (fun j => .bl (decide (l.getD j 0 < 2 ^ f.n))) (ev_var rfl) hl (by rw [nV_len]; omega) (fun _ => rfl) (fun j x H2 e2 hj => et_yes) (fun j x H2 e2 hj hf => ?_)) ?_))) ev_c (fun hb H1 e1 => ?_) (fun hb => ?_)
  · obtain ⟨rfl, hj⟩ := nV_at hj
    exact ev_mD (hD.up e2) (ev_var rfl) (ea_cons (ev_var rfl) ea_nil) (v_iw (hD.up e2))
  · refine (nV_list (fun _ => true) (fun x => V.bl (decide (x < 2 ^ f.n)))).trans ?_
    rw [filter_true, List.map_map]
    rfl
  · rw [e, if_neg (by rw [eb, hb]; decide)] at k
    exact s_putV (hD.up e1) (ev_var rfl) (ev_var rfl) (ex_l e1 hl) ((k.does (Int.natCast_nonneg _)).up e1)
  · rw [e, if_pos (by rw [eb, hb]; decide)] at k
    exact k.refuse (by decide)
end Bw
namespace Bw
open PySem PySem.Spec PyProof.Rows L2 Evl
variable {P : Program} {w : World} {K : PySem.W.Frag} {mg : Str → Option Value} {base : Heap} {CA CD CR : Addr}
/-! ### weight -/
def spWt (K : PySem.W.Frag) : Sp := fun vs H Q _ => ∃ v x ln l, vs = [v, .int ((x : Nat) : Int), .ref ln] ∧ SqL K H ln (nV l) ∧ l.length ≤ 20000 ∧ ∀ H', Ex H H' → Q (.int (Krdk.weigh l.length l x : Int)) H'
theorem v_wt {H : Hp} {v : V} {x : Nat} {ln : Addr} {l : List Nat} (h : SqL K H ln (nV l)) (hl : l.length ≤ 20000) : SpV (spWt K) [v, .int (x : Int), .ref ln] H (.int (Krdk.weigh l.length l x : Int)) := fun H1 e Q q _ => ⟨v, x, ln, l, rfl, ex_l e h, hl, q⟩
theorem sc_wt : FnScope ["self", "word", "numbers", "bit", "number"] ["self", "word", "numbers"] (defScope (sD 8)) := ⟨rfl, rfl, rfl, by decide +kernel, rfl, by decide +kernel, by decide +kernel⟩
theorem ok_wt (D : MDef K CD "weight" "Desk.weight" (sD 8) ["self", "word", "numbers"]) (T : Tx K mg CA CD CR) (h1 : GOk P w K mg base CX0 1 "has_bit" ["some", "bit"] spHb) : MOk P w K mg base CX0 2 CD "weight" ["self", "word", "numbers"] (spWt K) := by
  refine D.ok sc_wt (fun vs H Q E h => ?_) (fun _ cdv A outer s H vs Q E hr h => ?_)
  · obtain ⟨_, _, _, _, rfl, _⟩ := h
    rfl
  obtain ⟨v, x, ln, l, rfl, hl, hlen, k⟩ := h
  refine ⟨_, pss_one (ps_ret (pe_callB (cr_sum rfl) (by rfl) T.sum (by decide +kernel) (pa_cons
    (pe_lc (own := [("bit", 3), ("number", 4)]) (g := gTup K 2 (gCons (gName 3) (gCons (gName 4) gNil))) rfl sc_wt.nd (pi_enum (by rfl) T.enum (pa_cons (pv 2) pa_nil)) (blkOk_by (N := ["self", "word", "numbers", "bit", "number"]) (sc := defScope (sD 8)) (by decide +kernel))
      (fun _ _ _ _ _ => by exact pg_tup rfl (pgs_cons (pg_name (i := 3) sc_wt.nd rfl (Or.inl rfl)) (pgs_cons (pg_name (i := 4) sc_wt.nd rfl (Or.inl rfl)) pgs_nil)))
      (fun _ _ _ _ _ => pts_one (pt_val (pG h1 hr rfl pass0 (pa_cons (pv 1) (pa_cons (pv 3) pa_nil))))) (fun _ _ _ _ _ => pv 4)) pa_nil))), ?_⟩
  refine s_ret (ev_sumN (ns := (cmp l.length (fun i => x.testBit i) (fun i => l.getD i 0)).map fun (x : Nat) => (x : Int)) (EvL.is (el_lcE (fun i => x.testBit i) (fun i => .int ((l.getD i 0 : Nat) : Int)) (ev_var rfl) hl (by rw [nV_len]; omega) (fun _ _ => rfl) (fun i y H1 e1 hi => ?_) (fun i y H1 e1 hi hf => ?_)) ?_)) fun H1 e1 => ?_
  · exact et_B (ev_callN (ea_cons (ev_var rfl) (ea_cons (ev_var rfl) ea_nil)) v_hb)
  · obtain ⟨rfl, _⟩ := nV_at hi
    exact ev_var rfl
  · rw [nV_len, ← cmp_map, ← cmp_map]
    rfl
  · rw [sum_cast, ← weigh_eq]
    exact k H1 e1
/-! ### least -/
def spLs (K : PySem.W.Frag) (CD CA CR : Addr) : Sp := fun vs H Q E => ∃ d f q lw l, vs = [.ref d, .int ((q : Nat) : Int), .ref lw] ∧ DeskAt CD CA H d (some f) ∧ SqL K H lw (nV l) ∧ l.length ≤ 20000 ∧ Out CD CA CR d H Q E (Krdk.act (some f) (.least q l))
theorem sc_ls : FnScope ["self", "q", "numbers", "number", "word"] ["self", "q", "numbers"] (defScope (sD 9)) := ⟨rfl, rfl, rfl, by decide +kernel, rfl, by decide +kernel, by decide +kernel⟩
theorem words_at {n i : Nat} {x : V} (h : (nV (Krdk.words n))[i]? = some x) : x = .int (i : Int) ∧ i < 2 ^ n := by
  obtain ⟨rfl, h2⟩ := nV_at h
  unfold Krdk.words at h2 ⊢
  rw [List.length_range] at h2
  refine ⟨?_, h2⟩
  rw [List.getD_eq_getElem?_getD, List.getElem?_eq_getElem (by simpa using h2), List.getElem_range]
  rfl
theorem given_words {n : Nat} (p : Nat → Bool) : given (nV (Krdk.words n)).length p (fun i => V.int (i : Int)) = nV ((Krdk.words n).filter p) := by
  rw [nV_len]
  unfold given nV Krdk.words
  rw [List.length_range]
theorem nV_words_len {f : Krdk.Answer} (o : Ok f) : (nV (Krdk.words f.n)).length ≤ 40000 := by
  rw [nV_len]
  unfold Krdk.words
  rw [List.length_range]
  have := o.size
  omega
theorem ok_ls (D : MDef K CD "least" "Desk.least" (sD 9) ["self", "q", "numbers"]) (T : Tx K mg CA CD CR) (h1 : GOk P w K mg base (L2.CX P w) 3 "want" ["is_so", "refusal"] (spWa CR)) (h2 : MOk P w K mg base (L2.CX P w) 4 CD "answer" ["self"] (spAn CD CA CR))
    (h3 : MOk P w K mg base CX0 4 CD "put" ["self", "words"] (spPu K CD CA)) (h4 : MOk P w K mg base CX0 5 CD "all_words" ["self"] (spAw CD CA)) (h5 : MOk P w K mg base CX0 2 CD "weight" ["self", "word", "numbers"] (spWt K)) :
    MOk P w K mg base (L2.CX P w) 6 CD "least" ["self", "q", "numbers"] (spLs K CD CA CR) := by
  refine D.okX sc_ls (fun vs H Q E h => ?_) (fun _ cdv A outer s H vs Q E hr h => ?_)
  · obtain ⟨_, _, _, _, _, rfl, _⟩ := h
    rfl
  obtain ⟨d, f, q, lw, l, rfl, hd, hl, hlen, k⟩ := h
  obtain ⟨a, ls, hD⟩ := desk_on hd
  have o := hD.ans.ok
  refine ⟨_, pss_cons (ps_expr (pG h1 (hr.mono (by decide)) rfl (passes_call (takes_of rfl rfl rfl rfl) fun _ _ _ _ z => z) (pa_cons
      (pe_cmpR op_eq (pe_callB call_len_seq (by rfl) T.len (by decide +kernel) (pa_cons (pv 2) pa_nil)) (pe_fld (pM0 h2 T.cD (hr.mono (by decide)) passL (pv 0)) rfl) (nomark _)) (pa_cons (pk T.kNR rfl) pa_nil))))
    (pss_cons (ps_expr (pG h1 (hr.mono (by decide)) rfl (passes_call (takes_of rfl rfl rfl rfl) fun _ _ _ _ z => z) (pa_cons
      (pe_callB (cr_all rfl) (by rfl) T.all (by decide +kernel) (pa_cons (pe_lc (own := [("number", 3)]) (g := gName 3) rfl sc_ls.nd (pi_list (pv 2)) (blkOk_by (N := ["self", "q", "numbers", "number", "word"]) (sc := defScope (sD 9)) (by decide +kernel))
          (fun _ _ _ _ _ => pg_name (i := 3) sc_ls.nd rfl (Or.inl rfl)) (fun _ _ _ _ _ => pts_nil) (fun _ _ _ _ _ => pe_cmpR op_le (pv 3) (pk T.kGN rfl) (nomark _))) pa_nil)) (pa_cons (pk T.kNR rfl) pa_nil))))
    (pss_one (ps_ret (pM h3 T.cD (hr.mono (by decide)) pass0 (pv 0) (pa_cons
      (pe_lc (own := [("word", 4)]) (g := gName 4) rfl sc_ls.nd (pi_list (pM0 h4 T.cD hr pass0 (pv 0))) (blkOk_by (N := ["self", "q", "numbers", "number", "word"]) (sc := defScope (sD 9)) (by decide +kernel))
          (fun _ _ _ _ _ => pg_name (i := 4) sc_ls.nd rfl (Or.inl rfl)) (fun _ _ _ _ _ => pts_one (pt_cmpR op_ge (pM h5 T.cD (hr.mono (by decide)) pass0 (pv 0) (pa_cons (pv 4) (pa_cons (pv 2) pa_nil))) (pv 1) (nomark _))) (fun _ _ _ _ _ => pv 4)) pa_nil))))), ?_⟩
  have e : Krdk.act (some f) (.least q l) = if (decide (l.length ≠ f.n) || !(l.all fun v => decide (v ≤ 9))) = true then (some f, Krdk.say (-22)) else (some (Krdk.of f.n fun x => decide (q ≤ Krdk.weigh f.n l x)), Krdk.nat (Krdk.of f.n fun x => decide (q ≤ Krdk.weigh f.n l x)).yes) := rfl
  refine q_want (b := decide (l.length = f.n)) (ev_is (ev_op (ev_lenV (ev_var rfl) hl) (ev_many T hD.ans (ev_mD hD (ev_var rfl) ea_nil (v_an hD))) (rv_eq rfl)) ?_) ev_c (fun hb H1 e1 => ?_) (fun hb => ?_)
  · rw [dec_int, nV_len]
    congr 1
    rw [Bool.eq_iff_iff, beq_iff_eq, decide_eq_true_iff]
    omega
  · have hn := of_decide_eq_true hb
    have hD1 := hD.up e1
    refine q_want (b := l.all fun v => decide (v ≤ 9)) (ev_is (ev_allN (bs := l.map fun v => decide (v ≤ 9)) (EvL.is (el_lcL (fun _ => true) (fun j => .bl (decide (l.getD j 0 ≤ 9))) (ev_var rfl) (ex_l e1 hl) (by rw [nV_len]; omega) (fun _ => rfl) (fun j x H2 e2 hj => et_yes) (fun j x H2 e2 hj hf => ?_)) ?_)) ?_) ev_c (fun hb2 H2 e2 => ?_) (fun hb2 => ?_)
    · obtain ⟨rfl, hj⟩ := nV_at hj
      refine ev_is (ev_op (ev_var rfl) ev_c rv_I0) ?_
      congr 1
      rw [Bool.eq_iff_iff, decide_eq_true_iff, decide_eq_true_iff]
      omega
    · refine (nV_list (fun _ => true) (fun x => V.bl (decide (x ≤ 9)))).trans ?_
      rw [filter_true, List.map_map]
      rfl
    · rw [List.all_map]
      rfl
    · rw [e, if_neg (by rw [hb2]; simp [hn])] at k
      have hD2 := hD1.up e2
      have k2 := (k.does (Int.natCast_nonneg _)).up (e1.trans e2)
      rw [← of_filter] at k2
      refine s_put hD2 (ev_var rfl) (EvL.is (el_lcNL (fun x => decide (q ≤ Krdk.weigh f.n l x)) (fun x => .int (x : Int)) (el_mD hD2 (ev_var rfl) ea_nil (v_aw hD2)) (nV_words_len o) (fun _ => rfl) (fun x y H3 e3 hx => ?_) (fun x y H3 e3 hx hf => ?_)) (given_words _)) k2
      · obtain ⟨rfl, hx'⟩ := words_at hx
        refine et_is (et_test (ev_op (ev_mD (hD2.up e3) (ev_var rfl) (ea_cons (ev_var rfl) (ea_cons (ev_var rfl) ea_nil)) (v_wt (ex_l ((e1.trans e2).trans e3) hl) hlen)) (ev_var rfl) rv_I0)) ?_
        rw [hn, Bool.eq_iff_iff, decide_eq_true_iff, decide_eq_true_iff]
        omega
      · obtain ⟨rfl, hx'⟩ := words_at hx
        exact ev_var rfl
    · rw [e, if_pos (by rw [hb2]; simp)] at k
      exact (k.refuse (by decide)).up e1
  · have hn := of_decide_eq_false hb
    rw [e, if_pos (by simp [hn])] at k
    exact k.refuse (by decide)
/-! ### odd, bit, turn_about, turn -/
def spO1 (CD CA CR : Addr) (c : Nat → Krdk.Call) : Sp := fun vs H Q E => ∃ d f x, vs = [.ref d, .int ((x : Nat) : Int)] ∧ DeskAt CD CA H d (some f) ∧ Out CD CA CR d H Q E (Krdk.act (some f) (c x))
def spO0 (CD CA CR : Addr) (c : Krdk.Call) : Sp := fun vs H Q E => ∃ d f, vs = [.ref d] ∧ DeskAt CD CA H d (some f) ∧ Out CD CA CR d H Q E (Krdk.act (some f) c)
theorem o1 {c : Nat → Krdk.Call} {s t : Str} (vs : List V) (H : Hp) (Q : VK) (E : XK) (h : spO1 CD CA CR c vs H Q E) : vs.length = [s, t].length := by
  obtain ⟨_, _, _, rfl, _⟩ := h
  rfl
theorem o0 {c : Krdk.Call} {s : Str} (vs : List V) (H : Hp) (Q : VK) (E : XK) (h : spO0 CD CA CR c vs H Q E) : vs.length = [s].length := by
  obtain ⟨_, _, rfl, _⟩ := h
  rfl
/-- self.want_bit(i) -/
theorem q_wb {H : Hp} {d a ls : Addr} {f : Krdk.Answer} {i : Nat} {σ : L2.St} {to te : TE} {tz : TS} {D : Ends} {E : XK} (hD : DeskOn CD CA H d a ls f) (ho : Ev to σ H (.ref d)) (he : Ev te σ H (.int (i : Int)))
    (ht : i < f.n → ∀ H1, Ex H H1 → tz D σ H1) (hf : f.n ≤ i → Refuse CR (-2) H E) : tSeq (tDrop (tMeth CD "want_bit" (spWb CD CA CR) [] E to (tCons te tNil))) tz D σ H := by
  obtain ⟨dx, hd⟩ := hD.at_
  refine ho H (Ex.refl H) _ fun H1 e1 => ⟨d, dx, _, rfl, e1 _ _ hd, dF_none (by decide +kernel), he H1 e1 _ fun H2 e2 => ?_⟩
  exact ⟨d, a, ls, f, i, rfl, hD.up (e1.trans e2), fun hi H3 e3 => ht hi H3 ((e1.trans e2).trans e3), fun hi => (hf hi).up (e1.trans e2)⟩
theorem sc_oo : FnScope ["self", "s", "word"] ["self", "s"] (defScope (sD 10)) := ⟨rfl, rfl, rfl, by decide +kernel, rfl, by decide +kernel, by decide +kernel⟩
theorem ok_oo (D : MDef K CD "odd" "Desk.odd" (sD 10) ["self", "s"]) (T : Tx K mg CA CD CR) (h1 : GOk P w K mg base (L2.CX P w) 3 "want" ["is_so", "refusal"] (spWa CR)) (h2 : MOk P w K mg base CX0 5 CD "is_word" ["self", "number"] (spIw CD CA))
    (h3 : MOk P w K mg base CX0 4 CD "put" ["self", "words"] (spPu K CD CA)) (h4 : MOk P w K mg base CX0 5 CD "all_words" ["self"] (spAw CD CA)) (h5 : GOk P w K mg base CX0 2 "is_odd" ["word", "some"] spOd) :
    MOk P w K mg base (L2.CX P w) 6 CD "odd" ["self", "s"] (spO1 CD CA CR .odd) := by
  refine D.okX sc_oo o1 (fun _ cdv A outer s H vs Q E hr h => ?_)
  obtain ⟨d, f, x, rfl, hd, k⟩ := h
  obtain ⟨a, ls, hD⟩ := desk_on hd
  have o := hD.ans.ok
  refine ⟨_, pss_cons (ps_expr (pG h1 (hr.mono (by decide)) rfl (passes_call (takes_of rfl rfl rfl rfl) fun _ _ _ _ z => z) (pa_cons (pM h2 T.cD hr pass0 (pv 0) (pa_cons (pv 1) pa_nil)) (pa_cons (pk T.kNR rfl) pa_nil))))
    (pss_one (ps_ret (pM h3 T.cD (hr.mono (by decide)) pass0 (pv 0) (pa_cons
      (pe_lc (own := [("word", 2)]) (g := gName 2) rfl sc_oo.nd (pi_list (pM0 h4 T.cD hr pass0 (pv 0))) (blkOk_by (N := ["self", "s", "word"]) (sc := defScope (sD 10)) (by decide +kernel))
          (fun _ _ _ _ _ => pg_name (i := 2) sc_oo.nd rfl (Or.inl rfl)) (fun _ _ _ _ _ => pts_one (pt_val (pG h5 (hr.mono (by decide)) rfl pass0 (pa_cons (pv 2) (pa_cons (pv 1) pa_nil))))) (fun _ _ _ _ _ => pv 2)) pa_nil)))), ?_⟩
  have e : Krdk.act (some f) (.odd x) = if decide (2 ^ f.n ≤ x) = true then (some f, Krdk.say (-22)) else (some (Krdk.of f.n fun y => Krdk.meet f.n x y % 2 == 1), Krdk.nat (Krdk.of f.n fun y => Krdk.meet f.n x y % 2 == 1).yes) := rfl
  refine q_want (ev_mD hD (ev_var rfl) (ea_cons (ev_var rfl) ea_nil) (v_iw hD)) ev_c (fun hb H1 e1 => ?_) (fun hb => ?_)
  · have hx := of_decide_eq_true hb
    rw [e, if_neg (by rw [decide_eq_true_iff]; omega)] at k
    have hD1 := hD.up e1
    have k2 := (k.does (Int.natCast_nonneg _)).up e1
    have ep : Krdk.of f.n (fun y => Krdk.meet f.n x y % 2 == 1) = Krdk.of f.n (fun y => isOdd y x) := of_congr fun y hy => by
      rw [meet_pop f.n o.hi x hx y hy]
      unfold isOdd
      rw [Bool.eq_iff_iff, beq_iff_eq, decide_eq_true_iff]
    rw [ep, ← of_filter] at k2
    have h32 := o.size
    refine s_put hD1 (ev_var rfl) (EvL.is (el_lcNL (fun y => isOdd y x) (fun y => .int (y : Int)) (el_mD hD1 (ev_var rfl) ea_nil (v_aw hD1)) (nV_words_len o) (fun _ => rfl) (fun y v H3 e3 hy => ?_) (fun y v H3 e3 hy hf => ?_)) (given_words _)) k2
    · obtain ⟨rfl, hy'⟩ := words_at hy
      exact et_B (ev_callN (ea_cons (ev_var rfl) (ea_cons (ev_var rfl) ea_nil)) (v_od (by omega)))
    · obtain ⟨rfl, hy'⟩ := words_at hy
      exact ev_var rfl
  · have hx := of_decide_eq_false hb
    rw [e, if_pos (by rw [decide_eq_true_iff]; omega)] at k
    exact k.refuse (by decide)
theorem sc_bi : FnScope ["self", "i", "word"] ["self", "i"] (defScope (sD 11)) := ⟨rfl, rfl, rfl, by decide +kernel, rfl, by decide +kernel, by decide +kernel⟩
theorem ok_bi (D : MDef K CD "bit" "Desk.bit" (sD 11) ["self", "i"]) (T : Tx K mg CA CD CR) (h2 : MOk P w K mg base (L2.CX P w) 5 CD "want_bit" ["self", "i"] (spWb CD CA CR))
    (h3 : MOk P w K mg base CX0 4 CD "put" ["self", "words"] (spPu K CD CA)) (h4 : MOk P w K mg base CX0 5 CD "all_words" ["self"] (spAw CD CA)) (h5 : GOk P w K mg base CX0 1 "has_bit" ["some", "bit"] spHb) :
    MOk P w K mg base (L2.CX P w) 6 CD "bit" ["self", "i"] (spO1 CD CA CR .bit) := by
  refine D.okX sc_bi o1 (fun _ cdv A outer s H vs Q E hr h => ?_)
  obtain ⟨d, f, x, rfl, hd, k⟩ := h
  obtain ⟨a, ls, hD⟩ := desk_on hd
  have o := hD.ans.ok
  refine ⟨_, pss_cons (ps_expr (pM h2 T.cD hr (passes_call (takes_of rfl rfl rfl rfl) fun _ _ _ _ z => z) (pv 0) (pa_cons (pv 1) pa_nil)))
    (pss_one (ps_ret (pM h3 T.cD (hr.mono (by decide)) pass0 (pv 0) (pa_cons
      (pe_lc (own := [("word", 2)]) (g := gName 2) rfl sc_bi.nd (pi_list (pM0 h4 T.cD hr pass0 (pv 0))) (blkOk_by (N := ["self", "i", "word"]) (sc := defScope (sD 11)) (by decide +kernel))
          (fun _ _ _ _ _ => pg_name (i := 2) sc_bi.nd rfl (Or.inl rfl)) (fun _ _ _ _ _ => pts_one (pt_val (pG h5 (hr.mono (by decide)) rfl pass0 (pa_cons (pv 2) (pa_cons (pv 1) pa_nil))))) (fun _ _ _ _ _ => pv 2)) pa_nil)))), ?_⟩
  have e : Krdk.act (some f) (.bit x) = if decide (f.n ≤ x) = true then (some f, Krdk.say (-2)) else (some (Krdk.of f.n fun y => y.testBit x), Krdk.nat (Krdk.of f.n fun y => y.testBit x).yes) := rfl
  refine q_wb hD (ev_var rfl) (ev_var rfl) (fun hx H1 e1 => ?_) (fun hx => ?_)
  · rw [e, if_neg (by rw [decide_eq_true_iff]; omega)] at k
    have hD1 := hD.up e1
    have k2 := (k.does (Int.natCast_nonneg _)).up e1
    rw [← of_filter] at k2
    refine s_put hD1 (ev_var rfl) (EvL.is (el_lcNL (fun y => y.testBit x) (fun y => .int (y : Int)) (el_mD hD1 (ev_var rfl) ea_nil (v_aw hD1)) (nV_words_len o) (fun _ => rfl) (fun y v H3 e3 hy => ?_) (fun y v H3 e3 hy hf => ?_)) (given_words _)) k2
    · obtain ⟨rfl, hy'⟩ := words_at hy
      exact et_B (ev_callN (ea_cons (ev_var rfl) (ea_cons (ev_var rfl) ea_nil)) v_hb)
    · obtain ⟨rfl, hy'⟩ := words_at hy
      exact ev_var rfl
  · rw [e, if_pos (by rw [decide_eq_true_iff]; omega)] at k
    exact k.refuse (by decide)
theorem sc_ta : FnScope ["self", "word"] ["self"] (defScope (sD 12)) := ⟨rfl, rfl, rfl, by decide +kernel, rfl, by decide +kernel, by decide +kernel⟩
theorem ok_ta (D : MDef K CD "turn_about" "Desk.turn_about" (sD 12) ["self"]) (T : Tx K mg CA CD CR)
    (h3 : MOk P w K mg base CX0 4 CD "put" ["self", "words"] (spPu K CD CA)) (h4 : MOk P w K mg base CX0 5 CD "all_words" ["self"] (spAw CD CA)) :
    MOk P w K mg base CX0 6 CD "turn_about" ["self"] (spO0 CD CA CR .not_) := by
  refine D.ok sc_ta o0 (fun _ cdv A outer s H vs Q E hr h => ?_)
  obtain ⟨d, f, rfl, hd, k⟩ := h
  obtain ⟨a, ls, hD⟩ := desk_on hd
  have o := hD.ans.ok
  refine ⟨_, pss_one (ps_ret (pM h3 T.cD (hr.mono (by decide)) pass0 (pv 0) (pa_cons
      (pe_lc (own := [("word", 1)]) (g := gName 1) (tt := tNot (tB (tOp (rIxL K) (tFld K (tFld K (tVar 0) "own") "says") (tVar 1)))) rfl sc_ta.nd (pi_list (pM0 h4 T.cD hr pass0 (pv 0))) (blkOk_by (N := ["self", "word"]) (sc := defScope (sD 12)) (by decide +kernel))
          (fun _ _ _ _ _ => pg_name (i := 1) sc_ta.nd rfl (Or.inl rfl)) (fun _ _ _ _ _ => by exact pts_one (pt_not (pt_val (pe_ix ix_list (pe_fld (pe_fld (pv 0) rfl) rfl) (pv 1) (fun _ _ => rfl))))) (fun _ _ _ _ _ => pv 1)) pa_nil))), ?_⟩
  have e : Krdk.act (some f) .not_ = (some (Krdk.of f.n fun y => !f.at_ y), Krdk.nat (Krdk.of f.n fun y => !f.at_ y).yes) := rfl
  rw [e] at k
  have k2 := k.does (Int.natCast_nonneg _)
  rw [← of_filter] at k2
  refine s_put hD (ev_var rfl) (EvL.is (el_lcNL (fun y => !f.at_ y) (fun y => .int (y : Int)) (el_mD hD (ev_var rfl) ea_nil (v_aw hD)) (nV_words_len o) (fun _ => rfl) (fun y v H3 e3 hy => ?_) (fun y v H3 e3 hy hf => ?_)) (given_words _)) k2
  · obtain ⟨rfl, hy'⟩ := words_at hy
    have hD3 := hD.up e3
    exact et_not (et_B (ev_op (ev_says T hD3.ans (ev_own T hD3 (ev_var rfl))) (ev_var rfl) (rv_ixL (sq_of hD3.ans.says) (says_at o hy'))))
  · obtain ⟨rfl, hy'⟩ := words_at hy
    exact ev_var rfl
theorem sc_tn : FnScope ["self", "i", "word"] ["self", "i"] (defScope (sD 13)) := ⟨rfl, rfl, rfl, by decide +kernel, rfl, by decide +kernel, by decide +kernel⟩
theorem ok_tn (D : MDef K CD "turn" "Desk.turn" (sD 13) ["self", "i"]) (T : Tx K mg CA CD CR) (h2 : MOk P w K mg base (L2.CX P w) 5 CD "want_bit" ["self", "i"] (spWb CD CA CR))
    (h3 : MOk P w K mg base CX0 4 CD "put" ["self", "words"] (spPu K CD CA)) (h4 : MOk P w K mg base CX0 5 CD "all_words" ["self"] (spAw CD CA)) (h5 : GOk P w K mg base CX0 1 "turned" ["word", "bit"] spTu) :
    MOk P w K mg base (L2.CX P w) 6 CD "turn" ["self", "i"] (spO1 CD CA CR .turn) := by
  refine D.okX sc_tn o1 (fun _ cdv A outer s H vs Q E hr h => ?_)
  obtain ⟨d, f, x, rfl, hd, k⟩ := h
  obtain ⟨a, ls, hD⟩ := desk_on hd
  have o := hD.ans.ok
  refine ⟨_, pss_cons (ps_expr (pM h2 T.cD hr (passes_call (takes_of rfl rfl rfl rfl) fun _ _ _ _ z => z) (pv 0) (pa_cons (pv 1) pa_nil)))
    (pss_one (ps_ret (pM h3 T.cD (hr.mono (by decide)) pass0 (pv 0) (pa_cons
      (pe_lc (own := [("word", 2)]) (g := gName 2) (tt := tB (tOp (rIxL K) (tFld K (tFld K (tVar 0) "own") "says") (tCall spTu [] E0 (tCons (tVar 2) (tCons (tVar 1) tNil))))) rfl sc_tn.nd (pi_list (pM0 h4 T.cD hr pass0 (pv 0))) (blkOk_by (N := ["self", "i", "word"]) (sc := defScope (sD 13)) (by decide +kernel))
          (fun _ _ _ _ _ => pg_name (i := 2) sc_tn.nd rfl (Or.inl rfl)) (fun _ _ _ _ _ => by exact pts_one (pt_val (pe_ix ix_list (pe_fld (pe_fld (pv 0) rfl) rfl) (pG h5 (hr.mono (by decide)) rfl pass0 (pa_cons (pv 2) (pa_cons (pv 1) pa_nil))) (fun _ _ => rfl)))) (fun _ _ _ _ _ => pv 2)) pa_nil)))), ?_⟩
  have e : Krdk.act (some f) (.turn x) = if decide (f.n ≤ x) = true then (some f, Krdk.say (-2)) else (some (Krdk.of f.n fun y => f.at_ (Krdk.flip y x)), Krdk.nat (Krdk.of f.n fun y => f.at_ (Krdk.flip y x)).yes) := rfl
  refine q_wb hD (ev_var rfl) (ev_var rfl) (fun hx H1 e1 => ?_) (fun hx => ?_)
  · rw [e, if_neg (by rw [decide_eq_true_iff]; omega)] at k
    have hD1 := hD.up e1
    have k2 := (k.does (Int.natCast_nonneg _)).up e1
    rw [← of_filter] at k2
    have h32 := o.size
    have h5' := o.hi
    refine s_put hD1 (ev_var rfl) (EvL.is (el_lcNL (fun y => f.at_ (Krdk.flip y x)) (fun y => .int (y : Int)) (el_mD hD1 (ev_var rfl) ea_nil (v_aw hD1)) (nV_words_len o) (fun _ => rfl) (fun y v H3 e3 hy => ?_) (fun y v H3 e3 hy hf => ?_)) (given_words _)) k2
    · obtain ⟨rfl, hy'⟩ := words_at hy
      have hD3 := hD1.up e3
      exact et_B (ev_op (ev_says T hD3.ans (ev_own T hD3 (ev_var rfl))) (ev_callN (ea_cons (ev_var rfl) (ea_cons (ev_var rfl) ea_nil)) (v_tu (by omega) (by omega))) (rv_ixL (sq_of hD3.ans.says) (says_at o (flip_lt h5' hx hy'))))
    · obtain ⟨rfl, hy'⟩ := words_at hy
      exact ev_var rfl
  · rw [e, if_pos (by rw [decide_eq_true_iff]; omega)] at k
    exact k.refuse (by decide)
end Bw
namespace Bw
open PySem PySem.Spec PyProof.Rows L2 Evl
variable {P : Program} {w : World} {K : PySem.W.Frag} {mg : Str → Option Value} {base : Heap} {CA CD CR : Addr}
/-! ### set_word -/
def spSe (CD CA CR : Addr) : Sp := fun vs H Q E => ∃ d f x b, vs = [.ref d, .int ((x : Nat) : Int), .int ((b : Nat) : Int)] ∧ DeskAt CD CA H d (some f) ∧ Out CD CA CR d H Q E (Krdk.act (some f) (.set x b))
theorem mk_ans {H : Hp} {ls : Addr} {n : Nat} {g : Krdk.Answer} {σ : L2.St} {ta : TA} {E : XK} (ha : EvA ta σ H [.int (n : Int), .ref ls]) (hs : H ls = some (.lst (g.t.map V.bl))) (hn : g.n = n) (ok : Ok g) (Q : VK)
    (q : ∀ a' ls' H2, Ex H H2 → AnsAt CA H2 a' ls' g → Q (.ref a') H2) : tMake CA (spAI CA) [] E ta σ H Q :=
  ha H (Ex.refl H) _ fun H1 e1 x dx nx nd ne => ⟨x, dx, ls, n, rfl, upd_same, fun H2 h2 kp => ⟨rfl, by
    have kp' : ∀ b o, H1 b = some o → H2 b = some o := fun b o e => kp b o (by rw [upd_ne (ne_of_none e nx), upd_ne (ne_of_none e nd)]; exact e) (ne_of_none e nx)
    subst hn
    exact q x ls H2 (e1.trans kp') ⟨⟨dx, h2⟩, kp' _ _ (e1 _ _ hs), ok⟩⟩⟩
theorem sc_se : FnScope ["self", "x", "b", "says"] ["self", "x", "b"] (defScope (sD 14)) := ⟨rfl, rfl, rfl, by decide +kernel, rfl, by decide +kernel, by decide +kernel⟩
theorem ok_se (D : MDef K CD "set_word" "Desk.set_word" (sD 14) ["self", "x", "b"]) (T : Tx K mg CA CD CR) (h1 : GOk P w K mg base (L2.CX P w) 3 "want" ["is_so", "refusal"] (spWa CR)) (h2 : MOk P w K mg base CX0 5 CD "is_word" ["self", "number"] (spIw CD CA))
    (h3 : KOk P w K mg base CX0 1 "Answer" CA ["self", "many", "says"] (spAI CA)) (h4 : MOk P w K mg base CX0 2 CA "many_yes" ["self"] (spMy CA)) :
    MOk P w K mg base (L2.CX P w) 6 CD "set_word" ["self", "x", "b"] (spSe CD CA CR) := by
  refine D.okX sc_se (fun vs H Q E h => ?_) (fun _ cdv A outer s H vs Q E hr h => ?_)
  · obtain ⟨_, _, _, _, rfl, _⟩ := h
    rfl
  obtain ⟨d, f, x, b, rfl, hd, k⟩ := h
  obtain ⟨a, ls, hD⟩ := desk_on hd
  have o := hD.ans.ok
  refine ⟨_, pss_cons (ps_expr (pG h1 (hr.mono (by decide)) rfl (passes_call (takes_of rfl rfl rfl rfl) fun _ _ _ _ z => z) (pa_cons (pe_and (pM h2 T.cD hr pass0 (pv 0) (pa_cons (pv 1) pa_nil)) (pe_one (pe_cmpR op_le (pv 2) pe_int (nomark _)))) (pa_cons (pk T.kNR rfl) pa_nil))))
    (pss_cons (ps_set (i := 3) sc_se.nd rfl (Or.inl rfl) (pe_callTy call_list_of (by rfl) T.list (by decide +kernel) (pa_cons (pe_fld (pe_fld (pv 0) rfl) rfl) pa_nil)))
    (pss_cons (ps_asg (pe_cmpR op_eq (pv 2) pe_int (nomark _)) (pg_sub (pv 3) (pv 1) set_list))
    (pss_cons (ps_fld (pv 0) (pK h3 (hr.mono (by decide)) rfl pass0 (pa_cons (pe_fld (pe_fld (pv 0) rfl) rfl) (pa_cons (pv 3) pa_nil))) rfl)
    (pss_one (ps_ret (pe_lst (pa_cons (pM0 h4 T.cA (hr.mono (by decide)) pass0 (pe_fld (pv 0) rfl)) pa_nil))))))), ?_⟩
  have e : Krdk.act (some f) (.set x b) = if (decide (2 ^ f.n ≤ x) || decide (1 < b)) = true then (some f, Krdk.say (-22)) else (some ⟨f.n, f.t.set x (b == 1)⟩, Krdk.nat (Krdk.Answer.yes ⟨f.n, f.t.set x (b == 1)⟩)) := rfl
  refine q_want (ev_andV (ev_mD hD (ev_var rfl) (ea_cons (ev_var rfl) ea_nil) (v_iw hD)) (fun _ => ev_op (ev_var rfl) ev_c rv_I0)) ev_c (fun hb H1 e1 => ?_) (fun hb => ?_)
  · rw [Bool.and_eq_true, decide_eq_true_iff, decide_eq_true_iff] at hb
    have hx := hb.1
    rw [e, if_neg (by rw [Bool.or_eq_true, decide_eq_true_iff, decide_eq_true_iff]; omega)] at k
    have k2 := k.does (Int.natCast_nonneg _)
    have hD1 := hD.up e1
    have o2 : Ok ⟨f.n, f.t.set x (b == 1)⟩ := ⟨o.lo, o.hi, by show (f.t.set x (b == 1)).length = _; rw [List.length_set]; exact o.len⟩
    refine q_asgL (el_list (K := K) (ev_says T hD1.ans (ev_own T hD1 (ev_var rfl))) (sq_of hD1.ans.says)) fun q H2 nq e2 hq => ?_
    refine q_setL (j := x) hq (ev_op (ev_var rfl) ev_c (rv_eq rfl)) (ev_var rfl) (ev_var rfl) (by rw [says_len o]; exact hx) fun H3 e3 => ?_
    have e4 : Ex H1 (upd H3 q (.lst ((f.t.map V.bl).set x (.bl (decide (V.int (b : Int) = V.int 1)))))) := Ex.mut (e2.trans e3) nq
    have hD4 := hD1.up e4
    obtain ⟨dx, hd4⟩ := hD4.at_
    have hs : (upd H3 q (.lst ((f.t.map V.bl).set x (.bl (decide (V.int (b : Int) = V.int 1)))))) q = some (.lst ((f.t.set x (b == 1)).map V.bl)) := by
      rw [upd_same, List.map_set]
      have z : decide (V.int (b : Int) = V.int 1) = (b == 1) := by
        rw [dec_int, Bool.eq_iff_iff, beq_iff_eq, beq_iff_eq]
        omega
      rw [z]
    refine q_own T hd4 (ev_var rfl) (mk_ans (g := ⟨f.n, f.t.set x (b == 1)⟩) (ea_cons (ev_many T hD4.ans (ev_own T hD4 (ev_var rfl))) (ea_cons (ev_var rfl) ea_nil)) hs rfl o2) fun a' ls' H5 e5 hD5 => ?_
    exact s_retL (el_lst (ea_cons (ev_mA hD5.ans (ev_own T hD5 (ev_var rfl)) ea_nil (v1 hD5.ans)) ea_nil) (by show 1 ≤ 100000; decide)) fun p H6 np e6 hp => put_end k2 ((e1.trans e4).trans e5) hD5 np e6 hp
  · rw [e, if_pos (by
      rw [Bool.and_eq_false_iff, decide_eq_false_iff_not, decide_eq_false_iff_not] at hb
      rw [Bool.or_eq_true, decide_eq_true_iff, decide_eq_true_iff]
      omega)] at k
    exact k.refuse (by decide)
/-! ### ask -/
theorem sc_ak : FnScope ["self", "x"] ["self", "x"] (defScope (sD 15)) := ⟨rfl, rfl, rfl, by decide +kernel, rfl, by decide +kernel, by decide +kernel⟩
theorem ok_ak (D : MDef K CD "ask" "Desk.ask" (sD 15) ["self", "x"]) (T : Tx K mg CA CD CR) (h1 : GOk P w K mg base (L2.CX P w) 3 "want" ["is_so", "refusal"] (spWa CR)) (h2 : MOk P w K mg base CX0 5 CD "is_word" ["self", "number"] (spIw CD CA)) :
    MOk P w K mg base (L2.CX P w) 6 CD "ask" ["self", "x"] (spO1 CD CA CR .ask) := by
  refine D.okX sc_ak o1 (fun _ cdv A outer s H vs Q E hr h => ?_)
  obtain ⟨d, f, x, rfl, hd, k⟩ := h
  obtain ⟨a, ls, hD⟩ := desk_on hd
  have o := hD.ans.ok
  refine ⟨_, pss_cons (ps_expr (pG h1 (hr.mono (by decide)) rfl (passes_call (takes_of rfl rfl rfl rfl) fun _ _ _ _ z => z) (pa_cons (pM h2 T.cD hr pass0 (pv 0) (pa_cons (pv 1) pa_nil)) (pa_cons (pk T.kNR rfl) pa_nil))))
    (pss_one (ps_ret (pe_lst (pa_cons (pe_callTy call_int1 (by rfl) T.int (by decide +kernel) (pa_cons (pe_ix ix_list (pe_fld (pe_fld (pv 0) rfl) rfl) (pv 1) (fun _ _ => rfl)) pa_nil)) pa_nil)))), ?_⟩
  have e : Krdk.act (some f) (.ask x) = (some f, if decide (2 ^ f.n ≤ x) = true then Krdk.say (-22) else Krdk.ask (f.at_ x)) := rfl
  refine q_want (ev_mD hD (ev_var rfl) (ea_cons (ev_var rfl) ea_nil) (v_iw hD)) ev_c (fun hb H1 e1 => ?_) (fun hb => ?_)
  · have hx := of_decide_eq_true hb
    rw [e, if_neg (by rw [decide_eq_true_iff]; omega)] at k
    have hD1 := hD.up e1
    have k2 := (k.does (by show (0 : Int) ≤ if f.at_ x then 1 else 0; split <;> decide)).up e1
    exact s_retL (el_lst (ea_cons (ev_intB (ev_op (ev_says T hD1.ans (ev_own T hD1 (ev_var rfl))) (ev_var rfl) (rv_ixL (sq_of hD1.ans.says) (says_at o hx)))) ea_nil) (by show 1 ≤ 100000; decide)) fun p H2 np e2 hp => k2.same hD1 np e2 hp
  · have hx := of_decide_eq_false hb
    rw [e, if_pos (by rw [decide_eq_true_iff]; omega)] at k
    exact k.refuse (by decide)
/-! ### mean, sway, all_sways, even, part -/
theorem fr_told (r : Rat) : (KrdkNeutral.told (Krdk.frac r)).map V.int = [V.int 0] ++ (Krdk.fr r).map V.int := rfl
theorem sc_me : FnScope ["self"] ["self"] (defScope (sD 16)) := ⟨rfl, rfl, rfl, by decide +kernel, rfl, by decide +kernel, by decide +kernel⟩
theorem ok_me (D : MDef K CD "mean" "Desk.mean" (sD 16) ["self"]) (T : Tx K mg CA CD CR) (h1 : MOk P w K mg base (L2.CX P w) 4 CD "answer" ["self"] (spAn CD CA CR)) (h2 : MOk P w K mg base CX0 2 CA "size" ["self"] (spSz CA)) (h3 : MOk P w K mg base CX0 2 CA "many_yes" ["self"] (spMy CA))
    (h4 : GOk P w K mg base CX0 2 "fraction" ["upper", "lower"] spFr) : MOk P w K mg base CX0 5 CD "mean" ["self"] (spO0 CD CA CR .mean) := by
  refine D.ok sc_me o0 (fun _ cdv A outer s H vs Q E hr h => ?_)
  obtain ⟨d, f, rfl, hd, k⟩ := h
  obtain ⟨a, ls, hD⟩ := desk_on hd
  have o := hD.ans.ok
  have h32 := o.size
  refine ⟨_, pss_one (ps_ret (pe_op op_cat (pe_lst (pa_cons pe_int pa_nil)) (pG h4 (hr.mono (by decide)) rfl pass0 (pa_cons (pM0 h3 T.cA (hr.mono (by decide)) pass0 (pM0 h1 T.cD hr passL (pv 0))) (pa_cons (pM0 h2 T.cA (hr.mono (by decide)) pass0 (pM0 h1 T.cD hr passL (pv 0))) pa_nil))))), ?_⟩
  have k2 : Does CD CA H d (some f) (KrdkNeutral.told (Krdk.frac f.mean)) Q := k.does (by show (0 : Int) ≤ 0; decide)
  refine s_retL (el_cat (el_lst (ea_cons ev_c ea_nil) (by show 1 ≤ 100000; decide)) (el_callN (ea_cons (ev_mA hD.ans (ev_mD hD (ev_var rfl) ea_nil (v_an hD)) ea_nil (v1 hD.ans)) (ea_cons (ev_mA hD.ans (ev_mD hD (ev_var rfl) ea_nil (v_an hD)) ea_nil (v1 hD.ans)) ea_nil)) (v_fr (two_pos _) (by omega))) (by show 1 + 2 ≤ 100000; decide)) fun p H1 np e1 hp => k2.same hD np e1 ?_
  rw [hp, fr_told, mean_eq]
theorem sc_sw : FnScope ["self", "i"] ["self", "i"] (defScope (sD 17)) := ⟨rfl, rfl, rfl, by decide +kernel, rfl, by decide +kernel, by decide +kernel⟩
theorem ok_sw (D : MDef K CD "sway" "Desk.sway" (sD 17) ["self", "i"]) (T : Tx K mg CA CD CR) (h1 : MOk P w K mg base (L2.CX P w) 5 CD "want_bit" ["self", "i"] (spWb CD CA CR)) (h2 : MOk P w K mg base CX0 2 CA "size" ["self"] (spSz CA)) (h3 : MOk P w K mg base CX0 3 CA "many_swayed" ["self", "bit"] (spMs CA))
    (h4 : GOk P w K mg base CX0 2 "fraction" ["upper", "lower"] spFr) : MOk P w K mg base (L2.CX P w) 6 CD "sway" ["self", "i"] (spO1 CD CA CR .sway) := by
  refine D.okX sc_sw o1 (fun _ cdv A outer s H vs Q E hr h => ?_)
  obtain ⟨d, f, x, rfl, hd, k⟩ := h
  obtain ⟨a, ls, hD⟩ := desk_on hd
  have o := hD.ans.ok
  have h32 := o.size
  refine ⟨_, pss_cons (ps_expr (pM h1 T.cD hr (passes_call (takes_of rfl rfl rfl rfl) fun _ _ _ _ z => z) (pv 0) (pa_cons (pv 1) pa_nil)))
    (pss_one (ps_ret (pe_op op_cat (pe_lst (pa_cons pe_int pa_nil)) (pG h4 (hr.mono (by decide)) rfl pass0 (pa_cons (pM h3 T.cA (hr.mono (by decide)) pass0 (pe_fld (pv 0) rfl) (pa_cons (pv 1) pa_nil)) (pa_cons (pM0 h2 T.cA (hr.mono (by decide)) pass0 (pe_fld (pv 0) rfl)) pa_nil)))))), ?_⟩
  have e : Krdk.act (some f) (.sway x) = (some f, if decide (f.n ≤ x) = true then Krdk.say (-2) else Krdk.frac (f.sway x)) := rfl
  refine q_wb hD (ev_var rfl) (ev_var rfl) (fun hx H1 e1 => ?_) (fun hx => ?_)
  · rw [e, if_neg (by rw [decide_eq_true_iff]; omega)] at k
    have hD1 := hD.up e1
    have k2 := (k.does (by show (0 : Int) ≤ 0; decide)).up e1
    refine s_retL (el_cat (el_lst (ea_cons ev_c ea_nil) (by show 1 ≤ 100000; decide)) (el_callN (ea_cons (ev_mA hD1.ans (ev_own T hD1 (ev_var rfl)) (ea_cons (ev_var rfl) ea_nil) (v2 hD1.ans hx)) (ea_cons (ev_mA hD1.ans (ev_own T hD1 (ev_var rfl)) ea_nil (v1 hD1.ans)) ea_nil)) (v_fr (two_pos _) (by omega))) (by show 1 + 2 ≤ 100000; decide)) fun p H2 np e2 hp => k2.same hD1 np e2 ?_
    rw [hp, fr_told, sway_eq]
  · rw [e, if_pos (by rw [decide_eq_true_iff]; omega)] at k
    exact k.refuse (by decide)
theorem sc_al : FnScope ["self"] ["self"] (defScope (sD 18)) := ⟨rfl, rfl, rfl, by decide +kernel, rfl, by decide +kernel, by decide +kernel⟩
theorem ok_al (D : MDef K CD "all_sways" "Desk.all_sways" (sD 18) ["self"]) (T : Tx K mg CA CD CR) (h1 : MOk P w K mg base (L2.CX P w) 4 CD "answer" ["self"] (spAn CD CA CR)) (h2 : MOk P w K mg base CX0 2 CA "size" ["self"] (spSz CA)) (h3 : MOk P w K mg base CX0 4 CA "all_swayed" ["self"] (spAs CA))
    (h4 : GOk P w K mg base CX0 2 "fraction" ["upper", "lower"] spFr) : MOk P w K mg base CX0 5 CD "all_sways" ["self"] (spO0 CD CA CR .all) := by
  refine D.ok sc_al o0 (fun _ cdv A outer s H vs Q E hr h => ?_)
  obtain ⟨d, f, rfl, hd, k⟩ := h
  obtain ⟨a, ls, hD⟩ := desk_on hd
  have o := hD.ans.ok
  have h32 := o.size
  refine ⟨_, pss_one (ps_ret (pe_op op_cat (pe_lst (pa_cons pe_int pa_nil)) (pG h4 (hr.mono (by decide)) rfl pass0 (pa_cons (pe_callB (cr_sum rfl) (by rfl) T.sum (by decide +kernel) (pa_cons (pM0 h3 T.cA hr pass0 (pM0 h1 T.cD hr passL (pv 0))) pa_nil)) (pa_cons (pM0 h2 T.cA (hr.mono (by decide)) pass0 (pM0 h1 T.cD hr passL (pv 0))) pa_nil))))), ?_⟩
  have k2 : Does CD CA H d (some f) (KrdkNeutral.told (Krdk.frac f.all)) Q := k.does (by show (0 : Int) ≤ 0; decide)
  refine s_retL (el_cat (el_lst (ea_cons ev_c ea_nil) (by show 1 ≤ 100000; decide)) (el_callN (ea_cons (ev_sumN (ns := (List.range f.n).map fun i => (cnt f i : Int)) (EvL.is (el_mA hD.ans (ev_mD hD (ev_var rfl) ea_nil (v_an hD)) ea_nil (l1 hD.ans)) ?_)) (ea_cons (ev_mA hD.ans (ev_mD hD (ev_var rfl) ea_nil (v_an hD)) ea_nil (v1 hD.ans)) ea_nil)) (v_fr (two_pos _) (by omega))) (by show 1 + 2 ≤ 100000; decide)) fun p H1 np e1 hp => k2.same hD np e1 ?_
  · show nV ((List.range f.n).map (cnt f)) = _
    unfold nV
    rw [List.map_map, List.map_map]
    rfl
  · rw [hp, fr_told, all_eq]
theorem sc_ev : FnScope ["self", "yes", "size"] ["self"] (defScope (sD 19)) := ⟨rfl, rfl, rfl, by decide +kernel, rfl, by decide +kernel, by decide +kernel⟩
theorem ok_ev (D : MDef K CD "even" "Desk.even" (sD 19) ["self"]) (T : Tx K mg CA CD CR) (h1 : MOk P w K mg base (L2.CX P w) 4 CD "answer" ["self"] (spAn CD CA CR)) (h2 : MOk P w K mg base CX0 2 CA "size" ["self"] (spSz CA)) (h3 : MOk P w K mg base CX0 2 CA "many_yes" ["self"] (spMy CA))
    (h4 : GOk P w K mg base CX0 2 "fraction" ["upper", "lower"] spFr) : MOk P w K mg base CX0 5 CD "even" ["self"] (spO0 CD CA CR .even) := by
  refine D.ok sc_ev o0 (fun _ cdv A outer s H vs Q E hr h => ?_)
  obtain ⟨d, f, rfl, hd, k⟩ := h
  obtain ⟨a, ls, hD⟩ := desk_on hd
  have o := hD.ans.ok
  have h32 := o.size
  have hy := yes_le f
  refine ⟨_, pss_cons (ps_par (i := 1) (j := 2) rfl sc_ev.nd rfl rfl (by decide) rfl rfl (pa_cons (pM0 h3 T.cA (hr.mono (by decide)) pass0 (pM0 h1 T.cD hr passL (pv 0))) (pa_cons (pM0 h2 T.cA (hr.mono (by decide)) pass0 (pM0 h1 T.cD hr passL (pv 0))) pa_nil)) (by rfl))
    (pss_one (ps_ret (pe_op op_cat (pe_lst (pa_cons pe_int pa_nil)) (pG h4 (hr.mono (by decide)) rfl pass0 (pa_cons (pe_op op_mul (pe_op op_mul pe_int (pv 1)) (pe_op op_sub (pv 2) (pv 1))) (pa_cons (pe_op op_mul (pv 2) (pv 2)) pa_nil)))))), ?_⟩
  have k2 : Does CD CA H d (some f) (KrdkNeutral.told (Krdk.frac f.even_)) Q := k.does (by show (0 : Int) ≤ 0; decide)
  refine s_par (D := { nx := _, rt := Q }) (ea_cons (ev_mA hD.ans (ev_mD hD (ev_var rfl) ea_nil (v_an hD)) ea_nil (v1 hD.ans)) (ea_cons (ev_mA hD.ans (ev_mD hD (ev_var rfl) ea_nil (v_an hD)) ea_nil (v1 hD.ans)) ea_nil)) fun H1 e1 => ?_
  have hsz : 2 ^ f.n * 2 ^ f.n ≤ 100000 := Nat.le_trans (Nat.mul_le_mul h32 h32) (by decide)
  refine s_retL (el_cat (el_lst (ea_cons ev_c ea_nil) (by show 1 ≤ 100000; decide)) (el_callN (ea_cons (ev_op (ev_op ev_c (ev_var rfl) (rv_I (.inl ⟨by decide, by decide⟩))) (ev_op (ev_var rfl) (ev_var rfl) rv_I0) (rv_I (.inl ⟨by omega, by omega⟩))) (ea_cons (ev_is (ev_op (ev_var rfl) (ev_var rfl) (rv_I (.inl ⟨by omega, by omega⟩))) ?_) ea_nil)) (v_fr (l := 2 ^ f.n * 2 ^ f.n) (Nat.mul_pos (two_pos _) (two_pos _)) hsz)) (by show 1 + 2 ≤ 100000; decide)) fun p H2 np e2 hp => (k2.up e1).same (hD.up e1) np e2 ?_
  · rw [Int.natCast_mul]
  · rw [hp, fr_told, even_eq]
theorem sc_pp : FnScope ["self", "s"] ["self", "s"] (defScope (sD 20)) := ⟨rfl, rfl, rfl, by decide +kernel, rfl, by decide +kernel, by decide +kernel⟩
theorem ok_pp (D : MDef K CD "part" "Desk.part" (sD 20) ["self", "s"]) (T : Tx K mg CA CD CR) (h1 : GOk P w K mg base (L2.CX P w) 3 "want" ["is_so", "refusal"] (spWa CR)) (h2 : MOk P w K mg base CX0 5 CD "is_word" ["self", "number"] (spIw CD CA)) (h3 : MOk P w K mg base CX0 4 CA "part" ["self", "some"] (spPa CA)) :
    MOk P w K mg base (L2.CX P w) 6 CD "part" ["self", "s"] (spO1 CD CA CR .part) := by
  refine D.okX sc_pp o1 (fun _ cdv A outer s H vs Q E hr h => ?_)
  obtain ⟨d, f, x, rfl, hd, k⟩ := h
  obtain ⟨a, ls, hD⟩ := desk_on hd
  have o := hD.ans.ok
  refine ⟨_, pss_cons (ps_expr (pG h1 (hr.mono (by decide)) rfl (passes_call (takes_of rfl rfl rfl rfl) fun _ _ _ _ z => z) (pa_cons (pM h2 T.cD hr pass0 (pv 0) (pa_cons (pv 1) pa_nil)) (pa_cons (pk T.kNR rfl) pa_nil))))
    (pss_one (ps_ret (pe_op op_cat (pe_lst (pa_cons pe_int pa_nil)) (pM h3 T.cA (hr.mono (by decide)) pass0 (pe_fld (pv 0) rfl) (pa_cons (pv 1) pa_nil))))), ?_⟩
  have e : Krdk.act (some f) (.part x) = (some f, if decide (2 ^ f.n ≤ x) = true then Krdk.say (-22) else Krdk.frac (f.part x)) := rfl
  refine q_want (ev_mD hD (ev_var rfl) (ea_cons (ev_var rfl) ea_nil) (v_iw hD)) ev_c (fun hb H1 e1 => ?_) (fun hb => ?_)
  · have hx := of_decide_eq_true hb
    rw [e, if_neg (by rw [decide_eq_true_iff]; omega)] at k
    have hD1 := hD.up e1
    have k2 := (k.does (by show (0 : Int) ≤ 0; decide)).up e1
    exact s_retL (el_cat (el_lst (ea_cons ev_c ea_nil) (by show 1 ≤ 100000; decide)) (el_mA hD1.ans (ev_own T hD1 (ev_var rfl)) (ea_cons (ev_var rfl) ea_nil) (l2 hD1.ans hx)) (by show 1 + 2 ≤ 100000; decide)) fun p H2 np e2 hp => k2.same hD1 np e2 hp
  · have hx := of_decide_eq_false hb
    rw [e, if_pos (by rw [decide_eq_true_iff]; omega)] at k
    exact k.refuse (by decide)
end Bw
namespace Bw
open PySem PySem.Spec PyProof.Rows L2 Evl
variable {P : Program} {w : World} {K : PySem.W.Frag} {mg : Str → Option Value} {base : Heap} {CA CD CR : Addr}
/-- xs.extend(a new list) -/
theorem s_ext {l : Addr} {xs ys : List V} {H : Hp} {σ : L2.St} {ta te : TE} {D : Ends} (hl : H l = some (.lst xs)) (ha : Ev ta σ H (.ref l)) (h : EvL te σ H ys) (hz : xs.length + ys.length ≤ 100000) (k : ∀ H1, Ex H H1 → D.nx σ (upd H1 l (.lst (xs ++ ys)))) :
    tDrop (tBM K "list" rExtend ta (tCons te tNil)) D σ H := ha H (Ex.refl H) _ fun H1 e1 =>
  ⟨Or.inl ⟨rfl, xs, sq_of (e1 l _ hl)⟩, h H1 e1 _ fun p H2 np e2 hp => ⟨l, p, xs, ys, rfl, rfl, e2 l _ (e1 l _ hl), hp, sz_of hz, k H2 (e1.trans e2)⟩⟩
theorem q_asgA {H : Hp} {σ : L2.St} {tv : TE} {i : Nat} {tz : TS} {D : Ends} {g : Krdk.Answer} (hv : ∀ Q : VK, (∀ a' ls' H2, Ex H H2 → AnsAt CA H2 a' ls' g → Q (.ref a') H2) → tv σ H Q)
    (k : ∀ a' ls' H2, Ex H H2 → AnsAt CA H2 a' ls' g → tz D (σ.set i (some (.ref a'))) H2) : tSeq (tAsg tv (gName i)) tz D σ H := hv _ k
/-! ### sides, fewest, rising, state -/
theorem sc_sd : FnScope ["self"] ["self"] (defScope (sD 23)) := ⟨rfl, rfl, rfl, by decide +kernel, rfl, by decide +kernel, by decide +kernel⟩
theorem ok_sd (D : MDef K CD "sides" "Desk.sides" (sD 23) ["self"]) (T : Tx K mg CA CD CR) (h1 : MOk P w K mg base (L2.CX P w) 4 CD "answer" ["self"] (spAn CD CA CR)) (h2 : MOk P w K mg base CX0 5 CA "sides" ["self"] (spSi CA)) : MOk P w K mg base CX0 6 CD "sides" ["self"] (spO0 CD CA CR .sides) := by
  refine D.ok sc_sd o0 (fun _ cdv A outer s H vs Q E hr h => ?_)
  obtain ⟨d, f, rfl, hd, k⟩ := h
  obtain ⟨a, ls, hD⟩ := desk_on hd
  refine ⟨_, pss_one (ps_ret (pe_lst (pa_cons (pM0 h2 T.cA hr pass0 (pM0 h1 T.cD (hr.mono (by decide)) passL (pv 0))) pa_nil))), ?_⟩
  have k2 : Does CD CA H d (some f) [(f.sides : Int)] Q := k.does (Int.natCast_nonneg _)
  exact s_retL (el_lst (ea_cons (ev_mA hD.ans (ev_mD hD (ev_var rfl) ea_nil (v_an hD)) ea_nil (v1 hD.ans)) ea_nil) (by show 1 ≤ 100000; decide)) fun p H1 np e1 hp => k2.same hD np e1 hp
theorem sc_fe : FnScope ["self", "first"] ["self"] (defScope (sD 24)) := ⟨rfl, rfl, rfl, by decide +kernel, rfl, by decide +kernel, by decide +kernel⟩
theorem range_contains (m x : Nat) : (List.range m).contains x = decide (x < m) := by
  rw [Bool.eq_iff_iff, List.contains_iff_mem, decide_eq_true_iff]
  exact List.mem_range
theorem ok_fe (D : MDef K CD "fewest" "Desk.fewest" (sD 24) ["self"]) (T : Tx K mg CA CD CR) (h1 : MOk P w K mg base (L2.CX P w) 4 CD "answer" ["self"] (spAn CD CA CR)) (h2 : MOk P w K mg base CX0 5 CA "sides" ["self"] (spSi CA)) (h3 : MOk P w K mg base CX0 2 CA "many_yes" ["self"] (spMy CA))
    (h4 : GOk P w K mg base CX0 3 "answer_for" ["many", "words"] (spAf K CA)) : MOk P w K mg base CX0 6 CD "fewest" ["self"] (spO0 CD CA CR .fewest) := by
  refine D.ok sc_fe o0 (fun _ cdv A outer s H vs Q E hr h => ?_)
  obtain ⟨d, f, rfl, hd, k⟩ := h
  obtain ⟨a, ls, hD⟩ := desk_on hd
  have o := hD.ans.ok
  have h32 := o.size
  have hy := yes_le f
  refine ⟨_, pss_cons (ps_set (i := 1) sc_fe.nd rfl (Or.inl rfl) (pG h4 (hr.mono (by decide)) rfl pass0 (pa_cons (pe_fld (pM0 h1 T.cD (hr.mono (by decide)) passL (pv 0)) rfl) (pa_cons (pe_listRg rfl rfl T.list (prg_1 rfl T.range (pM0 h3 T.cA (hr.mono (by decide)) pass0 (pM0 h1 T.cD (hr.mono (by decide)) passL (pv 0))))) pa_nil))))
    (pss_one (ps_ret (pe_lst (pa_cons (pM0 h2 T.cA hr pass0 (pv 1)) pa_nil)))), ?_⟩
  have k2 : Does CD CA H d (some f) [((Krdk.first f.n f.yes).sides : Int)] Q := k.does (Int.natCast_nonneg _)
  have ef : Krdk.first f.n f.yes = Krdk.of f.n fun x => (List.range f.yes).contains x := by
    unfold Krdk.first
    exact of_congr fun x _ => (range_contains _ _).symm
  rw [ef] at k2
  refine q_asgA (af_callL (l := List.range f.yes) (ev_many T hD.ans (ev_mD hD (ev_var rfl) ea_nil (v_an hD))) (el_listRg (ev_mA hD.ans (ev_mD hD (ev_var rfl) ea_nil (v_an hD)) ea_nil (v1 hD.ans)) (by omega)) o.lo o.hi) fun a' ls' H2 e2 hA' => ?_
  exact s_retL (el_lst (ea_cons (ev_mA hA' (ev_var rfl) ea_nil (v1 hA')) ea_nil) (by show 1 ≤ 100000; decide)) fun p H3 np e3 hp => (k2.up e2).same (hD.up e2) np e3 hp
theorem sc_rs : FnScope ["self"] ["self"] (defScope (sD 25)) := ⟨rfl, rfl, rfl, by decide +kernel, rfl, by decide +kernel, by decide +kernel⟩
theorem ok_rs (D : MDef K CD "rising" "Desk.rising" (sD 25) ["self"]) (T : Tx K mg CA CD CR) (h1 : MOk P w K mg base (L2.CX P w) 4 CD "answer" ["self"] (spAn CD CA CR)) (h2 : MOk P w K mg base CX0 2 CA "is_rising" ["self"] (spRi CA)) : MOk P w K mg base CX0 5 CD "rising" ["self"] (spO0 CD CA CR .rising) := by
  refine D.ok sc_rs o0 (fun _ cdv A outer s H vs Q E hr h => ?_)
  obtain ⟨d, f, rfl, hd, k⟩ := h
  obtain ⟨a, ls, hD⟩ := desk_on hd
  refine ⟨_, pss_one (ps_ret (pe_lst (pa_cons (pe_callTy call_int1 (by rfl) T.int (by decide +kernel) (pa_cons (pM0 h2 T.cA (hr.mono (by decide)) pass0 (pM0 h1 T.cD hr passL (pv 0))) pa_nil)) pa_nil))), ?_⟩
  have k2 : Does CD CA H d (some f) [if f.rising then (1 : Int) else 0] Q := k.does (by show (0 : Int) ≤ if f.rising then 1 else 0; split <;> decide)
  exact s_retL (el_lst (ea_cons (ev_intB (ev_mA hD.ans (ev_mD hD (ev_var rfl) ea_nil (v_an hD)) ea_nil (v1 hD.ans))) ea_nil) (by show 1 ≤ 100000; decide)) fun p H1 np e1 hp => k2.same hD np e1 hp
theorem sc_st : FnScope ["self"] ["self"] (defScope (sD 28)) := ⟨rfl, rfl, rfl, by decide +kernel, rfl, by decide +kernel, by decide +kernel⟩
theorem ok_st (D : MDef K CD "state" "Desk.state" (sD 28) ["self"]) (T : Tx K mg CA CD CR) (h1 : MOk P w K mg base (L2.CX P w) 4 CD "answer" ["self"] (spAn CD CA CR)) (h2 : MOk P w K mg base CX0 1 CA "words" ["self"] (spWs CA)) : MOk P w K mg base CX0 5 CD "state" ["self"] (spO0 CD CA CR .state) := by
  refine D.ok sc_st o0 (fun _ cdv A outer s H vs Q E hr h => ?_)
  obtain ⟨d, f, rfl, hd, k⟩ := h
  obtain ⟨a, ls, hD⟩ := desk_on hd
  have o := hD.ans.ok
  have h32 := o.size
  have hy := yes_le f
  refine ⟨_, pss_one (ps_ret (pe_op op_cat (pe_lst (pa_cons (pe_fld (pM0 h1 T.cD hr passL (pv 0)) rfl) pa_nil)) (pM0 h2 T.cA (hr.mono (by decide)) pass0 (pM0 h1 T.cD hr passL (pv 0))))), ?_⟩
  have k2 : Does CD CA H d (some f) ((f.n : Int) :: Krdk.ints ((Krdk.words f.n).filter f.at_)) Q := k.does (Int.natCast_nonneg _)
  refine s_retL (el_cat (el_lst (ea_cons (ev_many T hD.ans (ev_mD hD (ev_var rfl) ea_nil (v_an hD))) ea_nil) (by show 1 ≤ 100000; decide)) (el_mA hD.ans (ev_mD hD (ev_var rfl) ea_nil (v_an hD)) ea_nil (l1 hD.ans)) ?_) fun p H1 np e1 hp => k2.same hD np e1 ?_
  · show 1 + (nV ((Krdk.words f.n).filter f.at_)).length ≤ 100000
    rw [nV_len]
    unfold Krdk.Answer.yes at hy
    omega
  · rw [hp]
    show some (HO.lst ([V.int (f.n : Int)] ++ nV ((Krdk.words f.n).filter f.at_))) = _
    rw [nV_int]
    rfl
/-! ### idle, most -/
theorem sc_id : FnScope ["self", "some", "i", "many"] ["self"] (defScope (sD 26)) := ⟨rfl, rfl, rfl, by decide +kernel, rfl, by decide +kernel, by decide +kernel⟩
theorem cnts_at {f : Krdk.Answer} {i : Nat} {x : V} (h : (nV ((List.range f.n).map (cnt f)))[i]? = some x) : x = .int (cnt f i : Int) ∧ i < f.n := by
  obtain ⟨rfl, h2⟩ := nV_at h
  rw [List.length_map, List.length_range] at h2
  exact ⟨by rw [getD_range_map h2], h2⟩
theorem ok_id (D : MDef K CD "idle" "Desk.idle" (sD 26) ["self"]) (T : Tx K mg CA CD CR) (h1 : MOk P w K mg base (L2.CX P w) 4 CD "answer" ["self"] (spAn CD CA CR)) (h2 : MOk P w K mg base CX0 4 CA "all_swayed" ["self"] (spAs CA)) : MOk P w K mg base CX0 5 CD "idle" ["self"] (spO0 CD CA CR .idle) := by
  refine D.ok sc_id o0 (fun _ cdv A outer s H vs Q E hr h => ?_)
  obtain ⟨d, f, rfl, hd, k⟩ := h
  obtain ⟨a, ls, hD⟩ := desk_on hd
  have o := hD.ans.ok
  have h5 := o.hi
  refine ⟨_, pss_cons (ps_setLc (i := 1) (own := [("i", 2), ("many", 3)]) (g := gTup K 2 (gCons (gName 2) (gCons (gName 3) gNil))) rfl sc_id.nd rfl rfl (sw_true rfl rfl rfl (by decide +kernel))
      (pi_enum (by rfl) T.enum (pa_cons (pM0 h2 T.cA hr pass0 (pM0 h1 T.cD hr passL (pv 0))) pa_nil)) (blkOk_by (N := ["self", "some", "i", "many"]) (sc := defScope (sD 26)) (by decide +kernel))
      (fun _ _ _ _ _ => by exact pg_tup rfl (pgs_cons (pg_name (i := 2) sc_id.nd rfl (Or.inl rfl)) (pgs_cons (pg_name (i := 3) sc_id.nd rfl (Or.inl rfl)) pgs_nil))) (fun _ _ _ _ _ => pts_one (pt_cmpR op_eq (pv 3) pe_int (nomark _))) (fun _ _ _ _ _ => pv 2))
    (pss_one (ps_ret (pe_op op_cat (pe_lst (pa_cons (pe_callB call_len_seq (by rfl) T.len (by decide +kernel) (pa_cons (pv 1) pa_nil)) pa_nil)) (pv 1)))), ?_⟩
  have k2 : Does CD CA H d (some f) ((((List.range f.n).filter fun i => f.sway i == 0).length : Int) :: Krdk.ints ((List.range f.n).filter fun i => f.sway i == 0)) Q := k.does (Int.natCast_nonneg _)
  have ll : ((List.range f.n).filter fun i => f.sway i == 0).length ≤ f.n := Nat.le_trans (List.length_filter_le _ _) (by simp)
  refine q_asgL (xs := nV ((List.range f.n).filter fun i => f.sway i == 0)) (EvL.is (el_lcNE (fun i => f.sway i == 0) (fun i => .int (i : Int)) (el_mA hD.ans (ev_mD hD (ev_var rfl) ea_nil (v_an hD)) ea_nil (l1 hD.ans)) ?_ (fun _ _ => rfl) (fun i x H1 _ hi => ?_) (fun i x H1 _ hi hf => ?_)) ?_) fun q H1 nq e1 hq => ?_
  · rw [nV_len, List.length_map, List.length_range]
    omega
  · obtain ⟨rfl, hl⟩ := cnts_at hi
    refine et_is (et_test (ev_op (ev_var rfl) ev_c (rv_eq rfl))) ?_
    rw [sway_zero, dec_int, Bool.eq_iff_iff, beq_iff_eq, decide_eq_true_iff]
  · exact ev_var rfl
  · rw [nV_len, List.length_map, List.length_range]
    rfl
  · refine s_retL (el_catV (el_lst (ea_cons (ev_lenV (ev_var rfl) (sq_of hq)) ea_nil) (by show 1 ≤ 100000; decide)) (ev_var rfl) hq ?_) fun p H2 np e2 hp => (k2.up e1).same (hD.up e1) np e2 ?_
    · show 1 + (nV ((List.range f.n).filter fun i => f.sway i == 0)).length ≤ 100000
      rw [nV_len]
      omega
    · rw [hp, nV_len, nV_int]
      rfl
theorem sc_mo : FnScope ["self", "swayed"] ["self"] (defScope (sD 27)) := ⟨rfl, rfl, rfl, by decide +kernel, rfl, by decide +kernel, by decide +kernel⟩
theorem ev_max {q : Addr} {ns : List Int} {m0 : Int} {H : Hp} {σ : L2.St} {te : TE} (h : Ev te σ H (.ref q)) (hq : SqL K H q (ns.map V.int)) (hne : 0 < ns.length) (hu : ∀ m, m ∈ ns → (∀ y, y ∈ ns → y ≤ m) → m = m0) : Ev (tCB (rMax K) (tCons te tNil)) σ H (.int m0) := fun H1 e Q k =>
  h H1 e _ fun H2 e2 => ⟨q, ns, rfl, ex_l (e.trans e2) hq, hne, fun m h1 h2 => by
    rw [hu m h1 h2]
    exact k H2 e2⟩
theorem ok_mo (D : MDef K CD "most" "Desk.most" (sD 27) ["self"]) (T : Tx K mg CA CD CR) (h1 : MOk P w K mg base (L2.CX P w) 4 CD "answer" ["self"] (spAn CD CA CR)) (h2 : MOk P w K mg base CX0 4 CA "all_swayed" ["self"] (spAs CA)) (h3 : MOk P w K mg base CX0 2 CA "size" ["self"] (spSz CA))
    (h4 : GOk P w K mg base CX0 2 "fraction" ["upper", "lower"] spFr) : MOk P w K mg base CX0 5 CD "most" ["self"] (spO0 CD CA CR .most) := by
  refine D.ok sc_mo o0 (fun _ cdv A outer s H vs Q E hr h => ?_)
  obtain ⟨d, f, rfl, hd, k⟩ := h
  obtain ⟨a, ls, hD⟩ := desk_on hd
  have o := hD.ans.ok
  have h5 := o.hi
  have h32 := o.size
  refine ⟨_, pss_cons (ps_set (i := 1) sc_mo.nd rfl (Or.inl rfl) (pM0 h2 T.cA hr pass0 (pM0 h1 T.cD hr passL (pv 0))))
    (pss_one (ps_ret (pe_op op_cat (pe_lst (pa_cons (pe_bm PySem.F.plainAttrs_list PySem.F.slot_list_index PySem.F.type_list_index mt_index (pv 1) (pa_cons (pe_callB (cr_max rfl) (by rfl) T.max (by decide +kernel) (pa_cons (pv 1) pa_nil)) pa_nil)) pa_nil))
      (pG h4 (hr.mono (by decide)) rfl pass0 (pa_cons (pe_callB (cr_max rfl) (by rfl) T.max (by decide +kernel) (pa_cons (pv 1) pa_nil)) (pa_cons (pM0 h3 T.cA (hr.mono (by decide)) pass0 (pM0 h1 T.cD hr passL (pv 0))) pa_nil)))))), ?_⟩
  have k2 : Does CD CA H d (some f) ((best f : Int) :: Krdk.fr (f.sway (best f))) Q := k.does (Int.natCast_nonneg _)
  have tb := best_top o
  refine q_asgL (el_mA hD.ans (ev_mD hD (ev_var rfl) ea_nil (v_an hD)) ea_nil (l1 hD.ans)) fun q H1 nq e1 hq => ?_
  have hD1 := hD.up e1
  have hq' : SqL K H1 q (((List.range f.n).map fun i => (cnt f i : Int)).map V.int) := by
    have z : nV ((List.range f.n).map (cnt f)) = ((List.range f.n).map fun i => (cnt f i : Int)).map V.int := by
      unfold nV
      rw [List.map_map, List.map_map]
      rfl
    rw [← z]
    exact sq_of hq
  have hu : ∀ m, m ∈ ((List.range f.n).map fun i => (cnt f i : Int)) → (∀ y, y ∈ ((List.range f.n).map fun i => (cnt f i : Int)) → y ≤ m) → m = (cnt f (best f) : Int) := fun m hm hle => by
    obtain ⟨i, hi, rfl⟩ := List.mem_map.mp hm
    have z1 := tb.ge i (List.mem_range.mp hi)
    have z2 := hle _ (List.mem_map.mpr ⟨best f, List.mem_range.mpr tb.lt, rfl⟩)
    omega
  have hmax : Ev (tCB (rMax K) (tCons (tVar 1) tNil)) [some (.ref d), some (.ref q)] H1 (.int (cnt f (best f) : Int)) := ev_max (ev_var rfl) hq' (by rw [List.length_map, List.length_range]; exact o.lo) hu
  have hix : Ev (tBM K "list" (rIndex K) (tVar 1) (tCons (tCB (rMax K) (tCons (tVar 1) tNil)) tNil)) [some (.ref d), some (.ref q)] H1 (.int (best f : Int)) := fun H2 e2 Q2 q2 => by
    refine ⟨_, rfl, .inl ⟨rfl, _, ex_l e2 (sq_of hq)⟩, hmax H2 e2 _ fun H3 e3 => ?_⟩
    have at_ : ∀ j, j < f.n → (nV ((List.range f.n).map (cnt f)))[j]? = some (.int (cnt f j : Int)) := fun j hj => by
      unfold nV
      rw [List.map_map, List.getElem?_map, List.getElem?_range hj]
      rfl
    refine ⟨q, _, _, best f, _, rfl, rfl, ex_l (e2.trans e3) (sq_of hq), rfl, flat_nV _, at_ _ tb.lt, beq_self_eq_true _, fun m z hm hz => ?_, q2 H3 e3⟩
    have hz' := at_ m (Nat.lt_trans hm tb.lt)
    rw [hz'] at hz
    cases hz
    have z3 := tb.first m hm
    show ((cnt f m : Int) == (cnt f (best f) : Int)) = false
    rw [beq_eq_false_iff_ne]
    omega
  refine s_retL (el_cat (el_lst (ea_cons hix ea_nil) (by show 1 ≤ 100000; decide)) (el_callN (ea_cons hmax (ea_cons (ev_mA hD1.ans (ev_mD hD1 (ev_var rfl) ea_nil (v_an hD1)) ea_nil (v1 hD1.ans)) ea_nil)) (v_fr (two_pos _) (by omega))) (by show 1 + 2 ≤ 100000; decide)) fun p H2 np e2 hp => (k2.up e1).same hD1 np e2 ?_
  rw [hp, sway_eq]
  rfl
/-! ### parts, levels -/
theorem sc_ps : FnScope ["self", "some", "found", "s", "own"] ["self"] (defScope (sD 21)) := ⟨rfl, rfl, rfl, by decide +kernel, rfl, by decide +kernel, by decide +kernel⟩
def partL (f : Krdk.Answer) : List Nat := (Krdk.words f.n).filter fun s => f.part s != 0
def partG (f : Krdk.Answer) (s : Nat) : List Int := (s : Int) :: Krdk.fr (f.part s)
theorem flat_len3 {g : Nat → List Int} (h : ∀ s, (g s).length ≤ 3) : ∀ l : List Nat, (l.flatMap g).length ≤ 3 * l.length
  | [] => by simp
  | x :: r => by
    rw [List.flatMap_cons, List.length_append, List.length_cons]
    have z := flat_len3 h r
    have z2 := h x
    omega
theorem take_more {α : Type} {l : List α} {i : Nat} {x : α} (h : l[i]? = some x) : l.take (i + 1) = l.take i ++ [x] := by
  rw [List.take_add_one, h]
  rfl
theorem ok_ps (D : MDef K CD "parts" "Desk.parts" (sD 21) ["self"]) (T : Tx K mg CA CD CR) (h1 : MOk P w K mg base (L2.CX P w) 4 CD "answer" ["self"] (spAn CD CA CR)) (h2 : MOk P w K mg base CX0 4 CA "sums" ["self"] (spSs CA)) (h3 : MOk P w K mg base CX0 4 CA "part" ["self", "some"] (spPa CA)) :
    MOk P w K mg base CX0 5 CD "parts" ["self"] (spO0 CD CA CR .parts) := by
  refine D.ok sc_ps o0 (fun _ cdv A outer s H vs Q E hr h => ?_)
  obtain ⟨d, f, rfl, hd, k⟩ := h
  obtain ⟨a, ls, hD⟩ := desk_on hd
  have o := hD.ans.ok
  have h32 := o.size
  refine ⟨_, pss_cons (ps_setLc (i := 1) (own := [("s", 3), ("own", 4)]) (g := gTup K 2 (gCons (gName 3) (gCons (gName 4) gNil))) rfl sc_ps.nd rfl rfl (sw_true rfl rfl rfl (by decide +kernel))
      (pi_enum (by rfl) T.enum (pa_cons (pM0 h2 T.cA hr pass0 (pM0 h1 T.cD hr passL (pv 0))) pa_nil)) (blkOk_by (N := ["self", "some", "found", "s", "own"]) (sc := defScope (sD 21)) (by decide +kernel))
      (fun _ _ _ _ _ => by exact pg_tup rfl (pgs_cons (pg_name (i := 3) sc_ps.nd rfl (Or.inl rfl)) (pgs_cons (pg_name (i := 4) sc_ps.nd rfl (Or.inl rfl)) pgs_nil))) (fun _ _ _ _ _ => pts_one (pt_cmpR op_ne (pv 4) pe_int (nomark _))) (fun _ _ _ _ _ => pv 3))
    (pss_cons (ps_set (i := 2) sc_ps.nd rfl (Or.inl rfl) (pe_lst (pa_cons (pe_callB call_len_seq (by rfl) T.len (by decide +kernel) (pa_cons (pv 1) pa_nil)) pa_nil)))
    (pss_cons (ps_for PassesOwn.never rfl (pi_list (pv 1)) (pg_name (i := 3) sc_ps.nd rfl (Or.inl rfl))
      (pss_one (ps_expr (pe_bm PySem.F.plainAttrs_list PySem.F.slot_list_extend PySem.F.type_list_extend mt_extend (pv 2) (pa_cons (pe_op op_cat (pe_lst (pa_cons (pv 3) pa_nil)) (pM h3 T.cA hr pass0 (pe_fld (pv 0) rfl) (pa_cons (pv 3) pa_nil))) pa_nil)))))
    (pss_one (ps_ret (pv 2))))), ?_⟩
  have k2 : Does CD CA H d (some f) (((partL f).length : Int) :: (partL f).flatMap (partG f)) Q := k.does (Int.natCast_nonneg _)
  have ll : ((List.range (2 ^ f.n)).map fun s => V.int (sumFor f s)).length = 2 ^ f.n := by simp
  have lp : (partL f).length ≤ 32 := by
    unfold partL Krdk.words
    exact Nat.le_trans (List.length_filter_le _ _) (by simpa using h32)
  refine q_asgL (xs := nV (partL f)) (EvL.is (el_lcNE (fun s => f.part s != 0) (fun i => .int (i : Int)) (el_mA hD.ans (ev_mD hD (ev_var rfl) ea_nil (v_an hD)) ea_nil (l1 hD.ans)) (by rw [ll]; omega) (fun _ _ => rfl) (fun i x H1 _ hi => ?_) (fun i x H1 _ hi hf => ?_)) ?_) fun q H1 nq e1 hq => ?_
  · obtain ⟨rfl, hl⟩ := sums_at hi
    refine et_is (et_test (ev_op (ev_var rfl) ev_c (rv_ne rfl))) ?_
    rw [part_zero o hl, dec_int]
    congr 1
  · exact ev_var rfl
  · rw [ll]
    rfl
  · have hD1 := hD.up e1
    refine q_asgL (el_lst (ea_cons (ev_lenV (ev_var rfl) (sq_of hq)) ea_nil) (by show 1 ≤ 100000; decide)) fun r H2 nr e2 hr2 => ?_
    rw [nV_len] at hr2
    have nrq : r ≠ q := (ne_of_none hq nr).symm
    refine q_forLn (K := K) (ev_var rfl) (sq_of (e2 _ _ hq)) (fun i σ H' => (∃ v : Option V, σ = [some (.ref d), some (.ref q), some (.ref r), v, none]) ∧ Ex H1 H' ∧ H' r = some (.lst ((((partL f).length : Int) :: ((partL f).take i).flatMap (partG f)).map V.int))) (fun H3 e3 => ⟨⟨_, rfl⟩, e2.trans e3, e3 _ _ hr2⟩) (fun i σ' H' _ p => sq_of (p.2.1 _ _ hq)) ?_ ?_
    · rintro i x σ' H' hi ⟨⟨v, rfl⟩, e, hr3⟩
      obtain ⟨rfl, hl⟩ := nV_at hi
      have hsi : (partL f)[i]? = some ((partL f).getD i 0) := by rw [List.getD_eq_getElem?_getD, List.getElem?_eq_getElem hl]; rfl
      have hs : (partL f).getD i 0 < 2 ^ f.n := List.mem_range.mp (List.mem_filter.mp (getD_mem hl)).1
      have hDi := hD1.up e
      have lb : (((partL f).take i).flatMap (partG f)).length ≤ 3 * ((partL f).take i).length := flat_len3 (g := partG f) (fun s => by show 3 ≤ 3; decide) _
      have lt : ((partL f).take i).length ≤ 32 := Nat.le_trans (List.length_take_le' _ _) lp
      refine s_ext hr3 (ev_var rfl) (el_cat (el_lst (ea_cons (ev_var rfl) ea_nil) (by show 1 ≤ 100000; decide)) (el_mA hDi.ans (ev_own T hDi (ev_var rfl)) (ea_cons (ev_var rfl) ea_nil) (l2 hDi.ans hs)) (by show 1 + 2 ≤ 100000; decide)) ?_ fun H3 e3 => ⟨⟨_, rfl⟩, Ex.mut (e.trans e3) nr, ?_⟩
      · rw [List.length_map, List.length_cons]
        show _ + 1 + 3 ≤ 100000
        omega
      · rw [upd_same, take_more hsi, List.flatMap_append, List.map_cons, List.map_cons, List.map_append]
        simp [partG]
    · rintro σ' H' ⟨⟨v, rfl⟩, e, hr3⟩
      rw [nV_len, List.take_length] at hr3
      refine s_ret (ev_var rfl) fun H3 e3 => ?_
      exact (k2.up e1).same hD1 nr (e.trans e3) (e3 _ _ hr3)
theorem sc_lv : FnScope ["self", "many", "found", "k"] ["self"] (defScope (sD 22)) := ⟨rfl, rfl, rfl, by decide +kernel, rfl, by decide +kernel, by decide +kernel⟩
theorem ok_lv (D : MDef K CD "levels" "Desk.levels" (sD 22) ["self"]) (T : Tx K mg CA CD CR) (h1 : MOk P w K mg base (L2.CX P w) 4 CD "answer" ["self"] (spAn CD CA CR)) (h2 : MOk P w K mg base CX0 5 CA "level" ["self", "k"] (spLe CA)) :
    MOk P w K mg base CX0 6 CD "levels" ["self"] (spO0 CD CA CR .levels) := by
  refine D.ok sc_lv o0 (fun _ cdv A outer s H vs Q E hr h => ?_)
  obtain ⟨d, f, rfl, hd, k⟩ := h
  obtain ⟨a, ls, hD⟩ := desk_on hd
  have o := hD.ans.ok
  have h5 := o.hi
  refine ⟨_, pss_cons (ps_set (i := 1) sc_lv.nd rfl (Or.inl rfl) (pe_op op_add (pe_fld (pM0 h1 T.cD (hr.mono (by decide)) passL (pv 0)) rfl) pe_int))
    (pss_cons (ps_set (i := 2) sc_lv.nd rfl (Or.inl rfl) (pe_lst (pa_cons (pv 1) pa_nil)))
    (pss_cons (ps_for PassesOwn.never rfl (pi_range1 rfl T.range (pa_cons (pv 1) pa_nil)) (pg_name (i := 3) sc_lv.nd rfl (Or.inl rfl))
      (pss_one (ps_expr (pe_bm PySem.F.plainAttrs_list PySem.F.slot_list_extend PySem.F.type_list_extend mt_extend (pv 2) (pa_cons (pM h2 T.cA hr pass0 (pe_fld (pv 0) rfl) (pa_cons (pv 3) pa_nil)) pa_nil)))))
    (pss_one (ps_ret (pv 2))))), ?_⟩
  have k2 : Does CD CA H d (some f) (((f.n : Int) + 1) :: (List.range (f.n + 1)).flatMap fun k => Krdk.fr (f.level k)) Q := k.does (by show (0 : Int) ≤ (f.n : Int) + 1; omega)
  refine q_asg (ev_op (ev_many T hD.ans (ev_mD hD (ev_var rfl) ea_nil (v_an hD))) ev_c rv_I0) fun H1 e1 => ?_
  have hD1 := hD.up e1
  refine q_asgL (el_lst (ea_cons (ev_var rfl) ea_nil) (by show 1 ≤ 100000; decide)) fun r H2 nr e2 hr2 => ?_
  refine q_forR1 (ea_cons (ev_var rfl) ea_nil) ⟨by omega, by omega⟩ (fun i σ H' => (∃ v : Option V, σ = [some (.ref d), some (.int ((f.n : Int) + 1)), some (.ref r), v]) ∧ Ex H1 H' ∧ H' r = some (.lst ((((f.n : Int) + 1) :: (List.range i).flatMap fun k => Krdk.fr (f.level k)).map V.int))) (fun H3 e3 => ⟨⟨_, rfl⟩, e2.trans e3, e3 _ _ hr2⟩) ?_ ?_
  · rintro i σ' H' hi ⟨⟨v, rfl⟩, e, hr3⟩
    have hDi := hD1.up e
    have lb : ((List.range i).flatMap fun k => Krdk.fr (f.level k)).length ≤ 3 * (List.range i).length := flat_len3 (fun s => by show 2 ≤ 3; decide) _
    rw [List.length_range] at lb
    refine s_ext hr3 (ev_var rfl) (el_mA hDi.ans (ev_own T hDi (ev_var rfl)) (ea_cons (ev_var rfl) ea_nil) (l2 hDi.ans trivial)) ?_ fun H3 e3 => ⟨⟨_, rfl⟩, Ex.mut (e.trans e3) nr, ?_⟩
    · rw [List.length_map, List.length_cons]
      show _ + 1 + 2 ≤ 100000
      omega
    · rw [upd_same, List.range_succ, List.flatMap_append, List.map_cons, List.map_cons, List.map_append]
      simp
  · rintro σ' H' ⟨⟨v, rfl⟩, e, hr3⟩
    rw [show ((f.n : Int) + 1).toNat = f.n + 1 by omega] at hr3
    refine s_ret (ev_var rfl) fun H3 e3 => ?_
    exact (k2.up e1).same hD1 nr (e.trans e3) (e3 _ _ hr3)
end Bw
namespace Bw
open PySem PySem.Spec PyProof.Rows L2 Evl
variable {P : Program} {w : World} {K : PySem.W.Frag} {mg : Str → Option Value} {base : Heap} {CA CD CR : Addr}
theorem deskAt_up {H H' : Hp} {d : Addr} {x : Option Krdk.Answer} (h : DeskAt CD CA H d x) (e : Ex H H') : DeskAt CD CA H' d x := by
  cases x with
  | none =>
    obtain ⟨dx, q⟩ := h
    exact ⟨dx, e _ _ q⟩
  | some f =>
    obtain ⟨dx, a, ls, q, hA⟩ := h
    exact ⟨dx, a, ls, e _ _ q, hA.up e⟩
theorem Out.up {H H' : Hp} {d : Addr} {Q : VK} {E : XK} {y : Krdk.Abs × Krdk.Ans} (h : Out CD CA CR d H Q E y) (e : Ex H H') : Out CD CA CR d H' Q E y := ⟨fun z => (h.no z).up e, fun z => (h.yes z).up e⟩
/-- return desk.m(..) -/
theorem s_md {d : Addr} {x : Option Krdk.Answer} {m : Str} {sp : Sp} {vs : List V} {H : Hp} {σ : L2.St} {to : TE} {t : TA} {D : Ends} {E : XK} (hd : DeskAt CD CA H d x) (ho : Ev to σ H (.ref d)) (ha : EvA t σ H vs) (hs : ∀ H1, Ex H H1 → sp (.ref d :: vs) H1 D.rt E) (hm : (m == ("own" : Str)) = false := by decide +kernel) :
    tRet (tMeth CD m sp [] E to t) D σ H := by
  obtain ⟨dx, v, hv⟩ := desk_ins hd
  refine ho H (Ex.refl H) _ fun H1 e1 => ⟨d, dx, _, rfl, e1 _ _ hv, dF_none hm, ha H1 e1 _ fun H2 e2 => ?_⟩
  rw [List.append_nil]
  exact hs H2 (e1.trans e2)
theorem s_gd {sp : Sp} {vs : List V} {H : Hp} {σ : L2.St} {t : TA} {D : Ends} {E : XK} (ha : EvA t σ H vs) (hs : ∀ H1, Ex H H1 → sp vs H1 D.rt E) : tRet (tCall sp [] E t) D σ H :=
  ha H (Ex.refl H) _ fun H1 e1 => by
    rw [List.append_nil]
    exact hs H1 e1
/-- if call == k: return .. -/
theorem q_case {c k : Nat} {H : Hp} {σ : L2.St} {te : TE} {tz : TS} {D : Ends} (hσ : σ[1]? = some (some (.int (c : Int)))) (h1 : c = k → ∀ H1, Ex H H1 → tRet te { D with nx := tz D } σ H1) (h2 : c ≠ k → ∀ H1, Ex H H1 → tz D σ H1) :
    tSeq (tIfS (tTest (tOp rEq (tVar 1) (tC (.int (k : Int))))) (tRet te) tNext) tz D σ H := by
  refine q_when (et_test (ev_op (ev_var hσ) ev_c (rv_eq rfl))) (fun hb H1 e1 => h1 ?_ H1 e1) (fun hb H1 e1 => h2 ?_ H1 e1)
  · rw [dec_int, beq_iff_eq] at hb
    omega
  · rw [dec_int, beq_eq_false_iff_ne] at hb
    omega
theorem ix0 {H : Hp} {ln : Addr} {ns : List Nat} {j : Nat} (h : SqL K H ln (nV ns)) (hj : j < ns.length) : RV (rIxL K) (.ref ln) (.int (j : Int)) H (.int ((ns.getD j 0 : Nat) : Int)) := by
  refine rv_ixL h (atI_nat ?_)
  unfold nV
  rw [List.getElem?_map, List.getElem?_eq_getElem hj, List.getD_eq_getElem?_getD, List.getElem?_eq_getElem hj]
  rfl
/-! ### of_answers -/
def spOA (K : PySem.W.Frag) (CD CA CR : Addr) : Sp := fun vs H Q E => ∃ d f c ln ns lr rs, vs = [.ref d, .int ((c : Nat) : Int), .ref ln, .ref lr] ∧ DeskAt CD CA H d (some f) ∧ SqL K H ln (nV ns) ∧ SqL K H lr (nV rs) ∧ 1 ≤ c ∧ c ≤ 8 ∧ ns.length = numsOf c ∧ rs.length ≤ 20000 ∧
  Out CD CA CR d H Q E (Krdk.act (some f) (callOf c ns rs))
theorem sc_oa : FnScope ["desk", "call", "n", "row"] ["desk", "call", "n", "row"] (defScope (tp 25)) := ⟨rfl, rfl, rfl, by decide +kernel, rfl, by decide +kernel, by decide +kernel⟩
theorem ok_oa (D : GDef K mg "of_answers" (tp 25) ["desk", "call", "n", "row"]) (T : Tx K mg CA CD CR)
    (h1 : MOk P w K mg base (L2.CX P w) 6 CD "told" ["self", "words"] (spTo K CD CA CR)) (h2 : MOk P w K mg base (L2.CX P w) 6 CD "least" ["self", "q", "numbers"] (spLs K CD CA CR))
    (h3 : MOk P w K mg base (L2.CX P w) 6 CD "odd" ["self", "s"] (spO1 CD CA CR .odd)) (h4 : MOk P w K mg base (L2.CX P w) 6 CD "bit" ["self", "i"] (spO1 CD CA CR .bit))
    (h5 : MOk P w K mg base CX0 6 CD "turn_about" ["self"] (spO0 CD CA CR .not_)) (h6 : MOk P w K mg base (L2.CX P w) 6 CD "turn" ["self", "i"] (spO1 CD CA CR .turn))
    (h7 : MOk P w K mg base (L2.CX P w) 6 CD "set_word" ["self", "x", "b"] (spSe CD CA CR)) (h8 : MOk P w K mg base (L2.CX P w) 6 CD "ask" ["self", "x"] (spO1 CD CA CR .ask)) :
    GOk P w K mg base (L2.CX P w) 7 "of_answers" ["desk", "call", "n", "row"] (spOA K CD CA CR) := by
  refine D.okX sc_oa (fun vs H Q E h => ?_) (fun _ cdv A outer s H vs Q E hr h => ?_)
  · obtain ⟨_, _, _, _, _, _, _, rfl, _⟩ := h
    rfl
  obtain ⟨d, f, c, ln, ns, lr, rs, rfl, hd, hn, hr', c1, c8, hl, hl2, k⟩ := h
  refine ⟨_, pss_cons (ps_if (pt_cmpR op_eq (pv 1) pe_int (nomark _)) (pss_one (ps_ret (pM h1 T.cD hr (passes_call (takes_of rfl rfl rfl rfl) fun _ _ _ _ z => z) (pv 0) (pa_cons (pv 3) pa_nil)))) pss_nil)
    (pss_cons (ps_if (pt_cmpR op_eq (pv 1) pe_int (nomark _)) (pss_one (ps_ret (pM h2 T.cD hr (passes_call (takes_of rfl rfl rfl rfl) fun _ _ _ _ z => z) (pv 0) (pa_cons (pe_ix ix_list (pv 2) pe_int (fun _ _ => rfl)) (pa_cons (pv 3) pa_nil))))) pss_nil)
    (pss_cons (ps_if (pt_cmpR op_eq (pv 1) pe_int (nomark _)) (pss_one (ps_ret (pM h3 T.cD hr (passes_call (takes_of rfl rfl rfl rfl) fun _ _ _ _ z => z) (pv 0) (pa_cons (pe_ix ix_list (pv 2) pe_int (fun _ _ => rfl)) pa_nil)))) pss_nil)
    (pss_cons (ps_if (pt_cmpR op_eq (pv 1) pe_int (nomark _)) (pss_one (ps_ret (pM h4 T.cD hr (passes_call (takes_of rfl rfl rfl rfl) fun _ _ _ _ z => z) (pv 0) (pa_cons (pe_ix ix_list (pv 2) pe_int (fun _ _ => rfl)) pa_nil)))) pss_nil)
    (pss_cons (ps_if (pt_cmpR op_eq (pv 1) pe_int (nomark _)) (pss_one (ps_ret (pM0 h5 T.cD hr pass0 (pv 0)))) pss_nil)
    (pss_cons (ps_if (pt_cmpR op_eq (pv 1) pe_int (nomark _)) (pss_one (ps_ret (pM h6 T.cD hr (passes_call (takes_of rfl rfl rfl rfl) fun _ _ _ _ z => z) (pv 0) (pa_cons (pe_ix ix_list (pv 2) pe_int (fun _ _ => rfl)) pa_nil)))) pss_nil)
    (pss_cons (ps_if (pt_cmpR op_eq (pv 1) pe_int (nomark _)) (pss_one (ps_ret (pM h7 T.cD hr (passes_call (takes_of rfl rfl rfl rfl) fun _ _ _ _ z => z) (pv 0) (pa_cons (pe_ix ix_list (pv 2) pe_int (fun _ _ => rfl)) (pa_cons (pe_ix ix_list (pv 2) pe_int (fun _ _ => rfl)) pa_nil))))) pss_nil)
    (pss_one (ps_ret (pM h8 T.cD hr (passes_call (takes_of rfl rfl rfl rfl) fun _ _ _ _ z => z) (pv 0) (pa_cons (pe_ix ix_list (pv 2) pe_int (fun _ _ => rfl)) pa_nil)))))))))), ?_⟩
  refine q_case (k := 1) rfl (fun hc H1 e1 => ?_) (fun n1 H1 e1 => ?_)
  · subst hc
    exact s_md (deskAt_up hd e1) (ev_var rfl) (ea_cons (ev_var rfl) ea_nil) fun H2 e2 => ⟨d, f, lr, rs, rfl, deskAt_up hd (e1.trans e2), ex_l (e1.trans e2) hr', hl2, k.up (e1.trans e2)⟩
  refine q_case (k := 2) rfl (fun hc H2 e2 => ?_) (fun n2 H2 e2 => ?_)
  · subst hc
    have e := e1.trans e2
    exact s_md (deskAt_up hd e) (ev_var rfl) (ea_cons (ev_op (ev_var rfl) ev_c (ix0 (j := 0) (ex_l e hn) (by rw [hl]; decide))) (ea_cons (ev_var rfl) ea_nil)) fun H9 e9 => ⟨d, f, _, lr, rs, rfl, deskAt_up hd (e.trans e9), ex_l (e.trans e9) hr', hl2, k.up (e.trans e9)⟩
  refine q_case (k := 3) rfl (fun hc H3 e3 => ?_) (fun n3 H3 e3 => ?_)
  · subst hc
    have e := (e1.trans e2).trans e3
    exact s_md (deskAt_up hd e) (ev_var rfl) (ea_cons (ev_op (ev_var rfl) ev_c (ix0 (j := 0) (ex_l e hn) (by rw [hl]; decide))) ea_nil) fun H9 e9 => ⟨d, f, _, rfl, deskAt_up hd (e.trans e9), k.up (e.trans e9)⟩
  refine q_case (k := 4) rfl (fun hc H4 e4 => ?_) (fun n4 H4 e4 => ?_)
  · subst hc
    have e := ((e1.trans e2).trans e3).trans e4
    exact s_md (deskAt_up hd e) (ev_var rfl) (ea_cons (ev_op (ev_var rfl) ev_c (ix0 (j := 0) (ex_l e hn) (by rw [hl]; decide))) ea_nil) fun H9 e9 => ⟨d, f, _, rfl, deskAt_up hd (e.trans e9), k.up (e.trans e9)⟩
  refine q_case (k := 5) rfl (fun hc H5 e5 => ?_) (fun n5 H5 e5 => ?_)
  · subst hc
    have e := (((e1.trans e2).trans e3).trans e4).trans e5
    exact s_md (deskAt_up hd e) (ev_var rfl) ea_nil fun H9 e9 => ⟨d, f, rfl, deskAt_up hd (e.trans e9), ⟨fun z => absurd z (Int.not_lt.mpr (Int.natCast_nonneg _)), (k.up (e.trans e9)).yes⟩⟩
  refine q_case (k := 6) rfl (fun hc H6 e6 => ?_) (fun n6 H6 e6 => ?_)
  · subst hc
    have e := ((((e1.trans e2).trans e3).trans e4).trans e5).trans e6
    exact s_md (deskAt_up hd e) (ev_var rfl) (ea_cons (ev_op (ev_var rfl) ev_c (ix0 (j := 0) (ex_l e hn) (by rw [hl]; decide))) ea_nil) fun H9 e9 => ⟨d, f, _, rfl, deskAt_up hd (e.trans e9), k.up (e.trans e9)⟩
  refine q_case (k := 7) rfl (fun hc H7 e7 => ?_) (fun n7 H7 e7 => ?_)
  · subst hc
    have e := (((((e1.trans e2).trans e3).trans e4).trans e5).trans e6).trans e7
    exact s_md (deskAt_up hd e) (ev_var rfl) (ea_cons (ev_op (ev_var rfl) ev_c (ix0 (j := 0) (ex_l e hn) (by rw [hl]; decide))) (ea_cons (ev_op (ev_var rfl) ev_c (ix0 (j := 1) (ex_l e hn) (by rw [hl]; decide))) ea_nil)) fun H9 e9 => ⟨d, f, _, _, rfl, deskAt_up hd (e.trans e9), k.up (e.trans e9)⟩
  have hc : c = 8 := by omega
  subst hc
  have e := (((((e1.trans e2).trans e3).trans e4).trans e5).trans e6).trans e7
  exact s_md (deskAt_up hd e) (ev_var rfl) (ea_cons (ev_op (ev_var rfl) ev_c (ix0 (j := 0) (ex_l e hn) (by rw [hl]; decide))) ea_nil) fun H9 e9 => ⟨d, f, _, rfl, deskAt_up hd (e.trans e9), k.up (e.trans e9)⟩
/-! ### of_sways -/
def spOS (K : PySem.W.Frag) (CD CA CR : Addr) : Sp := fun vs H Q E => ∃ d f c ln ns rs, vs = [.ref d, .int ((c : Nat) : Int), .ref ln] ∧ DeskAt CD CA H d (some f) ∧ SqL K H ln (nV ns) ∧ 9 ≤ c ∧ c ≤ 15 ∧ ns.length = numsOf c ∧
  Out CD CA CR d H Q E (Krdk.act (some f) (callOf c ns rs))
theorem sc_os : FnScope ["desk", "call", "n"] ["desk", "call", "n"] (defScope (tp 26)) := ⟨rfl, rfl, rfl, by decide +kernel, rfl, by decide +kernel, by decide +kernel⟩
theorem ok_os (D : GDef K mg "of_sways" (tp 26) ["desk", "call", "n"]) (T : Tx K mg CA CD CR)
    (h1 : MOk P w K mg base CX0 5 CD "mean" ["self"] (spO0 CD CA CR .mean)) (h2 : MOk P w K mg base (L2.CX P w) 6 CD "sway" ["self", "i"] (spO1 CD CA CR .sway))
    (h3 : MOk P w K mg base CX0 5 CD "all_sways" ["self"] (spO0 CD CA CR .all)) (h4 : MOk P w K mg base CX0 5 CD "even" ["self"] (spO0 CD CA CR .even)) (h5 : MOk P w K mg base (L2.CX P w) 6 CD "part" ["self", "s"] (spO1 CD CA CR .part))
    (h6 : MOk P w K mg base CX0 5 CD "parts" ["self"] (spO0 CD CA CR .parts)) (h7 : MOk P w K mg base CX0 6 CD "levels" ["self"] (spO0 CD CA CR .levels)) :
    GOk P w K mg base (L2.CX P w) 7 "of_sways" ["desk", "call", "n"] (spOS K CD CA CR) := by
  refine D.okX sc_os (fun vs H Q E h => ?_) (fun _ cdv A outer s H vs Q E hr h => ?_)
  · obtain ⟨_, _, _, _, _, _, rfl, _⟩ := h
    rfl
  obtain ⟨d, f, c, ln, ns, rs, rfl, hd, hn, c1, c8, hl, k⟩ := h
  have hr5 : Room 5 _ := hr.mono (by decide)
  refine ⟨_, pss_cons (ps_if (pt_cmpR op_eq (pv 1) pe_int (nomark _)) (pss_one (ps_ret (pM0 h1 T.cD hr5 pass0 (pv 0)))) pss_nil)
    (pss_cons (ps_if (pt_cmpR op_eq (pv 1) pe_int (nomark _)) (pss_one (ps_ret (pM h2 T.cD hr (passes_call (takes_of rfl rfl rfl rfl) fun _ _ _ _ z => z) (pv 0) (pa_cons (pe_ix ix_list (pv 2) pe_int (fun _ _ => rfl)) pa_nil)))) pss_nil)
    (pss_cons (ps_if (pt_cmpR op_eq (pv 1) pe_int (nomark _)) (pss_one (ps_ret (pM0 h3 T.cD hr5 pass0 (pv 0)))) pss_nil)
    (pss_cons (ps_if (pt_cmpR op_eq (pv 1) pe_int (nomark _)) (pss_one (ps_ret (pM0 h4 T.cD hr5 pass0 (pv 0)))) pss_nil)
    (pss_cons (ps_if (pt_cmpR op_eq (pv 1) pe_int (nomark _)) (pss_one (ps_ret (pM h5 T.cD hr (passes_call (takes_of rfl rfl rfl rfl) fun _ _ _ _ z => z) (pv 0) (pa_cons (pe_ix ix_list (pv 2) pe_int (fun _ _ => rfl)) pa_nil)))) pss_nil)
    (pss_cons (ps_if (pt_cmpR op_eq (pv 1) pe_int (nomark _)) (pss_one (ps_ret (pM0 h6 T.cD hr5 pass0 (pv 0)))) pss_nil)
    (pss_one (ps_ret (pM0 h7 T.cD hr pass0 (pv 0))))))))), ?_⟩
  refine q_case (k := 9) rfl (fun hc H1 e => ?_) (fun n1 H1 e => ?_)
  · subst hc
    exact s_md (deskAt_up hd e) (ev_var rfl) ea_nil fun H9 e9 => ⟨d, f, rfl, deskAt_up hd (e.trans e9), ⟨fun z => absurd z (by show ¬ ((0 : Int) < 0); decide), (k.up (e.trans e9)).yes⟩⟩
  refine q_case (k := 10) rfl (fun hc H2 e2 => ?_) (fun n2 H2 e2 => ?_) <;> replace e := e.trans e2
  · subst hc
    exact s_md (deskAt_up hd e) (ev_var rfl) (ea_cons (ev_op (ev_var rfl) ev_c (ix0 (j := 0) (ex_l e hn) (by rw [hl]; decide))) ea_nil) fun H9 e9 => ⟨d, f, _, rfl, deskAt_up hd (e.trans e9), k.up (e.trans e9)⟩
  refine q_case (k := 11) rfl (fun hc H3 e3 => ?_) (fun n3 H3 e3 => ?_) <;> replace e := e.trans e3
  · subst hc
    exact s_md (deskAt_up hd e) (ev_var rfl) ea_nil fun H9 e9 => ⟨d, f, rfl, deskAt_up hd (e.trans e9), ⟨fun z => absurd z (by show ¬ ((0 : Int) < 0); decide), (k.up (e.trans e9)).yes⟩⟩
  refine q_case (k := 12) rfl (fun hc H4 e4 => ?_) (fun n4 H4 e4 => ?_) <;> replace e := e.trans e4
  · subst hc
    exact s_md (deskAt_up hd e) (ev_var rfl) ea_nil fun H9 e9 => ⟨d, f, rfl, deskAt_up hd (e.trans e9), ⟨fun z => absurd z (by show ¬ ((0 : Int) < 0); decide), (k.up (e.trans e9)).yes⟩⟩
  refine q_case (k := 13) rfl (fun hc H5 e5 => ?_) (fun n5 H5 e5 => ?_) <;> replace e := e.trans e5
  · subst hc
    exact s_md (deskAt_up hd e) (ev_var rfl) (ea_cons (ev_op (ev_var rfl) ev_c (ix0 (j := 0) (ex_l e hn) (by rw [hl]; decide))) ea_nil) fun H9 e9 => ⟨d, f, _, rfl, deskAt_up hd (e.trans e9), k.up (e.trans e9)⟩
  refine q_case (k := 14) rfl (fun hc H6 e6 => ?_) (fun n6 H6 e6 => ?_) <;> replace e := e.trans e6
  · subst hc
    exact s_md (deskAt_up hd e) (ev_var rfl) ea_nil fun H9 e9 => ⟨d, f, rfl, deskAt_up hd (e.trans e9), ⟨fun z => absurd z (Int.not_lt.mpr (Int.natCast_nonneg _)), (k.up (e.trans e9)).yes⟩⟩
  have hc : c = 15 := by omega
  subst hc
  exact s_md (deskAt_up hd e) (ev_var rfl) ea_nil fun H9 e9 => ⟨d, f, rfl, deskAt_up hd (e.trans e9), ⟨fun z => absurd z (by show ¬ ((f.n : Int) + 1 < 0); omega), (k.up (e.trans e9)).yes⟩⟩
/-! ### of_sides -/
def spOD (CD CA CR : Addr) : Sp := fun vs H Q E => ∃ d f c ns rs, vs = [.ref d, .int ((c : Nat) : Int)] ∧ DeskAt CD CA H d (some f) ∧ 16 ≤ c ∧ c ≤ 21 ∧ Out CD CA CR d H Q E (Krdk.act (some f) (callOf c ns rs))
theorem sc_od2 : FnScope ["desk", "call"] ["desk", "call"] (defScope (tp 27)) := ⟨rfl, rfl, rfl, by decide +kernel, rfl, by decide +kernel, by decide +kernel⟩
theorem ok_od2 (D : GDef K mg "of_sides" (tp 27) ["desk", "call"]) (T : Tx K mg CA CD CR)
    (h1 : MOk P w K mg base CX0 6 CD "sides" ["self"] (spO0 CD CA CR .sides)) (h2 : MOk P w K mg base CX0 6 CD "fewest" ["self"] (spO0 CD CA CR .fewest))
    (h3 : MOk P w K mg base CX0 5 CD "rising" ["self"] (spO0 CD CA CR .rising)) (h4 : MOk P w K mg base CX0 5 CD "idle" ["self"] (spO0 CD CA CR .idle)) (h5 : MOk P w K mg base CX0 5 CD "most" ["self"] (spO0 CD CA CR .most))
    (h6 : MOk P w K mg base CX0 5 CD "state" ["self"] (spO0 CD CA CR .state)) :
    GOk P w K mg base CX0 7 "of_sides" ["desk", "call"] (spOD CD CA CR) := by
  refine D.ok sc_od2 (fun vs H Q E h => ?_) (fun _ cdv A outer s H vs Q E hr h => ?_)
  · obtain ⟨_, _, _, _, _, rfl, _⟩ := h
    rfl
  obtain ⟨d, f, c, ns, rs, rfl, hd, c1, c8, k⟩ := h
  have hr5 : Room 5 _ := hr.mono (by decide)
  refine ⟨_, pss_cons (ps_if (pt_cmpR op_eq (pv 1) pe_int (nomark _)) (pss_one (ps_ret (pM0 h1 T.cD hr pass0 (pv 0)))) pss_nil)
    (pss_cons (ps_if (pt_cmpR op_eq (pv 1) pe_int (nomark _)) (pss_one (ps_ret (pM0 h2 T.cD hr pass0 (pv 0)))) pss_nil)
    (pss_cons (ps_if (pt_cmpR op_eq (pv 1) pe_int (nomark _)) (pss_one (ps_ret (pM0 h3 T.cD hr5 pass0 (pv 0)))) pss_nil)
    (pss_cons (ps_if (pt_cmpR op_eq (pv 1) pe_int (nomark _)) (pss_one (ps_ret (pM0 h4 T.cD hr5 pass0 (pv 0)))) pss_nil)
    (pss_cons (ps_if (pt_cmpR op_eq (pv 1) pe_int (nomark _)) (pss_one (ps_ret (pM0 h5 T.cD hr5 pass0 (pv 0)))) pss_nil)
    (pss_one (ps_ret (pM0 h6 T.cD hr5 pass0 (pv 0)))))))), ?_⟩
  refine q_case (k := 16) rfl (fun hc H1 e => ?_) (fun n1 H1 e => ?_)
  · subst hc
    exact s_md (deskAt_up hd e) (ev_var rfl) ea_nil fun H9 e9 => ⟨d, f, rfl, deskAt_up hd (e.trans e9), ⟨fun z => absurd z (Int.not_lt.mpr (Int.natCast_nonneg _)), (k.up (e.trans e9)).yes⟩⟩
  refine q_case (k := 17) rfl (fun hc H2 e2 => ?_) (fun n2 H2 e2 => ?_) <;> replace e := e.trans e2
  · subst hc
    exact s_md (deskAt_up hd e) (ev_var rfl) ea_nil fun H9 e9 => ⟨d, f, rfl, deskAt_up hd (e.trans e9), ⟨fun z => absurd z (Int.not_lt.mpr (Int.natCast_nonneg _)), (k.up (e.trans e9)).yes⟩⟩
  refine q_case (k := 18) rfl (fun hc H3 e3 => ?_) (fun n3 H3 e3 => ?_) <;> replace e := e.trans e3
  · subst hc
    exact s_md (deskAt_up hd e) (ev_var rfl) ea_nil fun H9 e9 => ⟨d, f, rfl, deskAt_up hd (e.trans e9), ⟨fun z => absurd z (by show ¬ ((if f.rising then (1 : Int) else 0) < 0); split <;> decide), (k.up (e.trans e9)).yes⟩⟩
  refine q_case (k := 19) rfl (fun hc H4 e4 => ?_) (fun n4 H4 e4 => ?_) <;> replace e := e.trans e4
  · subst hc
    exact s_md (deskAt_up hd e) (ev_var rfl) ea_nil fun H9 e9 => ⟨d, f, rfl, deskAt_up hd (e.trans e9), ⟨fun z => absurd z (Int.not_lt.mpr (Int.natCast_nonneg _)), (k.up (e.trans e9)).yes⟩⟩
  refine q_case (k := 20) rfl (fun hc H5 e5 => ?_) (fun n5 H5 e5 => ?_) <;> replace e := e.trans e5
  · subst hc
    exact s_md (deskAt_up hd e) (ev_var rfl) ea_nil fun H9 e9 => ⟨d, f, rfl, deskAt_up hd (e.trans e9), ⟨fun z => absurd z (Int.not_lt.mpr (Int.natCast_nonneg _)), (k.up (e.trans e9)).yes⟩⟩
  have hc : c = 21 := by omega
  subst hc
  exact s_md (deskAt_up hd e) (ev_var rfl) ea_nil fun H9 e9 => ⟨d, f, rfl, deskAt_up hd (e.trans e9), ⟨fun z => absurd z (Int.not_lt.mpr (Int.natCast_nonneg _)), (k.up (e.trans e9)).yes⟩⟩
end Bw
namespace Bw
open PySem PySem.Spec PyProof.Rows L2 Evl
variable {P : Program} {w : World} {K : PySem.W.Frag} {mg : Str → Option Value} {base : Heap} {CA CD CR : Addr}
/-! ### told -/
def spTd (K : PySem.W.Frag) (CD CA CR : Addr) : Sp := fun vs H Q E => ∃ d x c ln ns lr rs, vs = [.ref d, .int ((c : Nat) : Int), .ref ln, .ref lr] ∧ DeskAt CD CA H d x ∧ SqL K H ln (nV ns) ∧ SqL K H lr (nV rs) ∧ c < 22 ∧ ns.length = numsOf c ∧ rs.length ≤ 20000 ∧
  Out CD CA CR d H Q E (Krdk.act x (callOf c ns rs))
theorem q_an {H : Hp} {d : Addr} {x : Option Krdk.Answer} {σ : L2.St} {to : TE} {tz : TS} {D : Ends} {E : XK} (hd : DeskAt CD CA H d x) (ho : Ev to σ H (.ref d)) (hno : x = none → Refuse CR (-11) H E) (hyes : ∀ f, x = some f → ∀ H1, Ex H H1 → tz D σ H1) :
    tSeq (tDrop (tMeth CD "answer" (spAn CD CA CR) [] E to tNil)) tz D σ H := by
  obtain ⟨dx, v, hv⟩ := desk_ins hd
  refine ho H (Ex.refl H) _ fun H1 e1 => ⟨d, dx, _, rfl, e1 _ _ hv, dF_none (by decide +kernel), d, rfl, ?_⟩
  cases x with
  | none => exact .inl ⟨deskAt_up hd e1, (hno rfl).up e1⟩
  | some f =>
    obtain ⟨a, ls, hD⟩ := desk_on (deskAt_up hd e1)
    exact .inr ⟨a, ls, f, hD, fun H2 e2 => hyes f rfl H2 (e1.trans e2)⟩
/-- if call < k: return .. -/
theorem q_lt {c k : Nat} {H : Hp} {σ : L2.St} {te : TE} {tz : TS} {D : Ends} (hσ : σ[1]? = some (some (.int (c : Int)))) (h1 : c < k → ∀ H1, Ex H H1 → tRet te { D with nx := tz D } σ H1) (h2 : ¬ c < k → ∀ H1, Ex H H1 → tz D σ H1) :
    tSeq (tIfS (tTest (tOp (rI0 fun i j => .bl (decide (i < j))) (tVar 1) (tC (.int (k : Int))))) (tRet te) tNext) tz D σ H := by
  refine q_when (et_test (ev_op (ev_var hσ) ev_c rv_I0)) (fun hb H1 e1 => h1 ?_ H1 e1) (fun hb H1 e1 => h2 ?_ H1 e1)
  · have := of_decide_eq_true hb
    omega
  · have := of_decide_eq_false hb
    omega
theorem sc_td : FnScope ["desk", "call", "n", "row"] ["desk", "call", "n", "row"] (defScope (tp 28)) := ⟨rfl, rfl, rfl, by decide +kernel, rfl, by decide +kernel, by decide +kernel⟩
theorem ok_td (D : GDef K mg "told" (tp 28) ["desk", "call", "n", "row"]) (T : Tx K mg CA CD CR)
    (h1 : MOk P w K mg base (L2.CX P w) 4 CD "begin" ["self", "n"] (spBe CD CA CR)) (h2 : MOk P w K mg base (L2.CX P w) 4 CD "answer" ["self"] (spAn CD CA CR))
    (h3 : GOk P w K mg base (L2.CX P w) 7 "of_answers" ["desk", "call", "n", "row"] (spOA K CD CA CR)) (h4 : GOk P w K mg base (L2.CX P w) 7 "of_sways" ["desk", "call", "n"] (spOS K CD CA CR))
    (h5 : GOk P w K mg base CX0 7 "of_sides" ["desk", "call"] (spOD CD CA CR)) : GOk P w K mg base (L2.CX P w) 8 "told" ["desk", "call", "n", "row"] (spTd K CD CA CR) := by
  refine D.okX sc_td (fun vs H Q E h => ?_) (fun _ cdv A outer s H vs Q E hr h => ?_)
  · obtain ⟨_, _, _, _, _, _, _, rfl, _⟩ := h
    rfl
  obtain ⟨d, x, c, ln, ns, lr, rs, rfl, hd, hn, hr', c22, hl, hl2, k⟩ := h
  have hr4 : Room 4 _ := hr.mono (by decide)
  refine ⟨_, pss_cons (ps_if (pt_cmpR op_eq (pv 1) pe_int (nomark _)) (pss_one (ps_ret (pM h1 T.cD hr4 (passes_call (takes_of rfl rfl rfl rfl) fun _ _ _ _ z => z) (pv 0) (pa_cons (pe_ix ix_list (pv 2) pe_int (fun _ _ => rfl)) pa_nil)))) pss_nil)
    (pss_cons (ps_expr (pM0 h2 T.cD hr4 (passes_call (takes_of rfl rfl rfl rfl) fun _ _ _ _ z => z) (pv 0)))
    (pss_cons (ps_if (pt_cmpR op_lt (pv 1) pe_int (nomark _)) (pss_one (ps_ret (pG h3 hr rfl (passes_call (takes_of rfl rfl rfl rfl) fun _ _ _ _ z => z) (pa_cons (pv 0) (pa_cons (pv 1) (pa_cons (pv 2) (pa_cons (pv 3) pa_nil))))))) pss_nil)
    (pss_cons (ps_if (pt_cmpR op_lt (pv 1) pe_int (nomark _)) (pss_one (ps_ret (pG h4 hr rfl (passes_call (takes_of rfl rfl rfl rfl) fun _ _ _ _ z => z) (pa_cons (pv 0) (pa_cons (pv 1) (pa_cons (pv 2) pa_nil)))))) pss_nil)
    (pss_one (ps_ret (pG h5 hr rfl pass0 (pa_cons (pv 0) (pa_cons (pv 1) pa_nil)))))))), ?_⟩
  refine q_case (k := 0) rfl (fun hc H1 e => ?_) (fun n0 H1 e => ?_)
  · subst hc
    exact s_md (deskAt_up hd e) (ev_var rfl) (ea_cons (ev_op (ev_var rfl) ev_c (ix0 (j := 0) (ex_l e hn) (by rw [hl]; decide))) ea_nil) fun H9 e9 => ⟨d, x, _, rfl, deskAt_up hd (e.trans e9), k.up (e.trans e9)⟩
  refine q_an (deskAt_up hd e) (ev_var rfl) (fun hx => ?_) (fun f hx H2 e2 => ?_)
  · subst hx
    rw [act_none n0 c22] at k
    exact (k.refuse (by decide)).up e
  subst hx
  replace e := e.trans e2
  refine q_lt (k := 9) rfl (fun hc H3 e3 => ?_) (fun n1 H3 e3 => ?_) <;> replace e := e.trans e3
  · exact s_gd (ea_cons (ev_var rfl) (ea_cons (ev_var rfl) (ea_cons (ev_var rfl) (ea_cons (ev_var rfl) ea_nil)))) fun H9 e9 => ⟨d, f, c, ln, ns, lr, rs, rfl, deskAt_up hd (e.trans e9), ex_l (e.trans e9) hn, ex_l (e.trans e9) hr', by omega, by omega, hl, hl2, k.up (e.trans e9)⟩
  refine q_lt (k := 16) rfl (fun hc H4 e4 => ?_) (fun n2 H4 e4 => ?_) <;> replace e := e.trans e4
  · exact s_gd (ea_cons (ev_var rfl) (ea_cons (ev_var rfl) (ea_cons (ev_var rfl) ea_nil))) fun H9 e9 => ⟨d, f, c, ln, ns, rs, rfl, deskAt_up hd (e.trans e9), ex_l (e.trans e9) hn, by omega, by omega, hl, k.up (e.trans e9)⟩
  · refine s_gd (ea_cons (ev_var rfl) (ea_cons (ev_var rfl) ea_nil)) fun H9 e9 => ⟨d, f, c, ns, rs, rfl, deskAt_up hd (e.trans e9), by omega, by omega, ?_⟩
    refine ⟨fun z => ?_, (k.up (e.trans e9)).yes⟩
    have hc : c = 16 ∨ c = 17 ∨ c = 18 ∨ c = 19 ∨ c = 20 ∨ c = 21 := by omega
    rcases hc with rfl | rfl | rfl | rfl | rfl | rfl
    · exact absurd z (Int.not_lt.mpr (Int.natCast_nonneg _))
    · exact absurd z (Int.not_lt.mpr (Int.natCast_nonneg _))
    · exact absurd z (by show ¬ ((if f.rising then (1 : Int) else 0) < 0); split <;> decide)
    · exact absurd z (Int.not_lt.mpr (Int.natCast_nonneg _))
    · exact absurd z (Int.not_lt.mpr (Int.natCast_nonneg _))
    · exact absurd z (Int.not_lt.mpr (Int.natCast_nonneg _))
/-! ### answered -/
def spAd (K : PySem.W.Frag) (CD CA : Addr) : Sp := fun vs H Q _ => ∃ d x c ln ns lr rs, vs = [.ref d, .int ((c : Nat) : Int), .ref ln, .ref lr] ∧ DeskAt CD CA H d x ∧ SqL K H ln (nV ns) ∧ SqL K H lr (nV rs) ∧ c < 22 ∧ ns.length = numsOf c ∧ rs.length ≤ 20000 ∧
  Does CD CA H d (Krdk.act x (callOf c ns rs)).1 (KrdkNeutral.told (Krdk.act x (callOf c ns rs)).2) Q
def t_suite (CR : Addr) : Addr → Value → Option Addr → TS := fun a cls d => tAsg (tLst (tCons (tXf a cls d CR "refusal" (tVar 5)) tNil)) (gName 4)
theorem sc_ad : FnScope ["desk", "call", "n", "row", "found", "e"] ["desk", "call", "n", "row"] (defScope (tp 29)) := ⟨rfl, rfl, rfl, by decide +kernel, rfl, by decide +kernel, by decide +kernel⟩
theorem ok_ad (D : GDef K mg "answered" (tp 29) ["desk", "call", "n", "row"]) (T : Tx K mg CA CD CR) (h1 : GOk P w K mg base (L2.CX P w) 8 "told" ["desk", "call", "n", "row"] (spTd K CD CA CR)) : GOk P w K mg base CX0 9 "answered" ["desk", "call", "n", "row"] (spAd K CD CA) := by
  refine D.ok sc_ad (fun vs H Q E h => ?_) (fun _ cdv A outer s H vs Q E hr h => ?_)
  · obtain ⟨_, _, _, _, _, _, _, rfl, _⟩ := h
    rfl
  obtain ⟨d, x, c, ln, ns, lr, rs, rfl, hd, hn, hr', c22, hl, hl2, k⟩ := h
  refine ⟨_, pss_cons (ps_try_as (i := 5) (tb := fun W => tAsg (tCallS (spTd K CD CA CR) (WE W) (tCons (tVar 0) (tCons (tVar 1) (tCons (tVar 2) (tCons (tVar 3) tNil))))) (gName 4)) (ts := t_suite CR) (Wout := fun _ _ _ _ => False) rfl rfl sc_ad.nd rfl rfl ⟨rfl, by decide, Or.inl T.gR⟩ takes0
      (fun W pn xe tk _ => pss_one (ps_set (i := 4) sc_ad.nd rfl (Or.inl rfl) (by exact (pGS h1 hr rfl (fun σ => passAt tk σ) (by exact (pa_cons (pv 0) (pa_cons (pv 1) (pa_cons (pv 2) (pa_cons (pv 3) pa_nil)))))))))
      (fun a oe cls d pn hz hf => pss_one (ps_set (i := 4) sc_ad.nd rfl (Or.inl rfl) (by exact (pe_lst (pa_cons (pe_xf T.xf T.nR hz hf (pv 5)) pa_nil))))))
    (pss_one (ps_ret (pv 4))), ?_⟩
  refine ⟨_, rfl, _, rfl, _, rfl, _, rfl, d, x, c, ln, ns, lr, rs, rfl, hd, hn, hr', c22, hl, hl2, ?_⟩
  have anum := act_no x (callOf c ns rs)
  generalize Krdk.act x (callOf c ns rs) = y at k anum
  obtain ⟨y1, y2⟩ := y
  refine ⟨fun hneg => ?_, fun hpos H' p h1 h2 h3 h4 => ?_⟩
  · obtain ⟨q1, q2⟩ := anum hneg
    have q1' : y1 = x := q1
    have q2' : y2.nums = [] := q2
    subst q1'
    refine fun H' e eH hx => ⟨true, T.eR, fun _ a0 na => ?_, fun z => Bool.noConfusion z⟩
    refine ⟨_, rfl, rfl, rfl, e, _, _, rfl, hx, lk_here, (by show 1 ≤ sizeLine; decide), fun p np => ?_⟩
    refine ⟨_, rfl, ?_⟩
    refine k _ p (deskAt_up hd (eH.trans (Ex.new np))) (fun b o q _ => (eH.trans (Ex.new np)) b o q) (fresh_back eH np) ?_
    rw [upd_same]
    show _ = some (HO.lst ((y2.num :: y2.nums).map V.int))
    rw [q2']
    rfl
  · exact ⟨_, rfl, k H' p h1 h2 h3 h4⟩
end Bw
namespace Bw
open PySem PySem.Spec PyProof.Rows L2 Evl
variable {P : Program} {w : World} {K : PySem.W.Frag} {mg : Str → Option Value} {base : Heap} {CA CD CR : Addr}
/-- the two tuples of the module -/
structure Tt (K : PySem.W.Frag) (mg : Str → Option Value) (aN aW : Addr) : Prop where
  gN : mg "NUMBERS" = some (.ref aN)
  gW : mg "WITH_LIST" = some (.ref aW)
  tN : ∀ H : Hp, SqT K H aN (nV numbers)
  tW : ∀ H : Hp, SqT K H aW (nV [1, 2])
theorem cut_nV (L : List Nat) {a b : Nat} (h : a ≤ b) : cutV (nV L) (some (a : Int)) (some (b : Int)) = nV ((L.drop a).take (b - a)) := by
  unfold cutV
  rw [HT.sIx_nat, HT.sIx_nat, nV_len]
  unfold nV
  rw [← List.map_drop, ← List.map_take]
  congr 1
  by_cases ha : a ≤ L.length
  · rw [Nat.min_eq_left ha]
    by_cases hb : b ≤ L.length
    · rw [Nat.min_eq_left hb]
    · rw [Nat.min_eq_right (by omega)]
      rw [List.take_of_length_le (by rw [List.length_drop]; omega), List.take_of_length_le (by rw [List.length_drop]; omega)]
  · rw [Nat.min_eq_right (by omega), Nat.min_eq_right (by omega), List.drop_of_length_le (l := L) (i := a) (by omega), List.drop_of_length_le (Nat.le_refl _)]
    simp
theorem in_with {c : Nat} : inV (.int (c : Int)) (nV [1, 2]) = withList c := by
  rw [in_nV]
  unfold withList
  rw [List.contains_cons, List.contains_cons]
  simp
theorem num_at {c : Nat} (h : c < 22) : atI (nV numbers) (c : Int) = some (.int (numsOf c : Int)) := by
  refine atI_nat ?_
  unfold nV numsOf
  have hl : c < numbers.length := h
  rw [List.getElem?_map, List.getElem?_eq_getElem hl, List.getD_eq_getElem?_getD, List.getElem?_eq_getElem hl]
  rfl
theorem L_at {L : List Nat} {k c : Nat} (h : L[k]? = some c) : atI (nV L) (k : Int) = some (.int (c : Int)) := by
  refine atI_nat ?_
  unfold nV
  rw [List.getElem?_map, h]
  rfl
/-- the desk stands while a list of whole numbers changes -/
theorem desk_upd {H : Hp} {d r : Addr} {x : Option Krdk.Answer} {F : List Int} {o : HO} (h : DeskAt CD CA H d x) (hr : H r = some (.lst (F.map V.int))) : DeskAt CD CA (upd H r o) d x := by
  cases x with
  | none =>
    obtain ⟨dx, q⟩ := h
    exact ⟨dx, by rw [upd_ne (ne_of q hr (by intro z; cases z))]; exact q⟩
  | some f =>
    obtain ⟨dx, a, ls, q, hA⟩ := h
    obtain ⟨dx', q'⟩ := hA.at_
    have nl : ls ≠ r := ne_of hA.says hr (by
      intro z
      injection z with z
      have hlen : 0 < f.t.length := by rw [hA.ok.len]; exact two_pos _
      cases ht : f.t with
      | nil =>
        rw [ht] at hlen
        exact absurd hlen (by decide)
      | cons b t =>
        rw [ht] at z
        cases F with
        | nil => cases z
        | cons i F => cases z)
    exact ⟨dx, a, ls, by rw [upd_ne (ne_of q hr (by intro z; cases z))]; exact q, ⟨dx', by rw [upd_ne (ne_of q' hr (by intro z; cases z))]; exact q'⟩, by rw [upd_ne nl]; exact hA.says, hA.ok⟩
def spAns (K : PySem.W.Frag) : Sp := fun vs H Q _ => ∃ (lc : Addr) (L : List Nat), vs = [.ref lc] ∧ SqL K H lc (nV L) ∧ L.length ≤ 20000 ∧ PyKrdk.answers_asked (zs L) = true ∧
  ∀ (H' : Hp) (p : Addr), H' p = some (.lst ((PyKrdk.answers (zs L)).map V.int)) → Q (.ref p) H'
/-- what is asked: the calls, and few answers -/
theorem asked_some {l : List Int} (h : PyKrdk.answers_asked l = true) : ∃ raw, PyFlat.calls PyKrdk.shape l.length l = some raw ∧ PyKrdk.answers l = PyFlat.told (PyFlat.played KrdkNeutral.step KrdkNeutral.start raw) ∧ (PyKrdk.answers l).length ≤ 10000000 := by
  unfold PyKrdk.answers_asked at h
  cases hc : PyFlat.calls PyKrdk.shape l.length l with
  | none =>
    rw [hc] at h
    cases h
  | some raw =>
    rw [hc] at h
    simp only [Bool.and_eq_true] at h
    refine ⟨raw, rfl, ?_, of_decide_eq_true h.2⟩
    unfold PyKrdk.answers PyKrdk.calls
    rw [hc]
    have e : raw.map PyKrdk.whole = raw := by
      conv => rhs; rw [← List.map_id raw]
      exact List.map_congr_left fun c _ => whole_id c
    show PyFlat.told (PyFlat.played KrdkNeutral.step KrdkNeutral.start (raw.map PyKrdk.whole)) = _
    rw [e]
theorem sc_aa : FnScope ["calls", "desk", "found", "at", "call", "behind", "n", "row", "end", "some"] ["calls"] (defScope (tp 30)) := ⟨rfl, rfl, rfl, by decide +kernel, rfl, by decide +kernel, by decide +kernel⟩
/-- found.append(e), found.extend(some), whatever the size -/
theorem q_appZ {l : Addr} {xs : List V} {v : V} {H : Hp} {σ : L2.St} {ta te : TE} {tz : TS} {D : Ends} (hl : H l = some (.lst xs)) (ha : Ev ta σ H (.ref l)) (h : Ev te σ H v) (hz : xs.length < sizeLine) (k : ∀ H1, Ex H H1 → tz D σ (upd H1 l (.lst (xs ++ [v])))) :
    tSeq (tDrop (tBM K "list" rAppend ta (tCons te tNil))) tz D σ H := ha H (Ex.refl H) _ fun H1 e1 =>
  ⟨Or.inl ⟨rfl, xs, sq_of (e1 l _ hl)⟩, h H1 e1 _ fun H2 e2 => ⟨l, xs, v, rfl, rfl, e2 l _ (e1 l _ hl), hz, k H2 (e1.trans e2)⟩⟩
theorem q_extZ {l b : Addr} {xs ys : List V} {H : Hp} {σ : L2.St} {ta te : TE} {tz : TS} {D : Ends} (hl : H l = some (.lst xs)) (hb : H b = some (.lst ys)) (ha : Ev ta σ H (.ref l)) (h : Ev te σ H (.ref b)) (hz : xs.length + ys.length ≤ sizeLine) (k : ∀ H1, Ex H H1 → tz D σ (upd H1 l (.lst (xs ++ ys)))) :
    tSeq (tDrop (tBM K "list" rExtend ta (tCons te tNil))) tz D σ H := ha H (Ex.refl H) _ fun H1 e1 =>
  ⟨Or.inl ⟨rfl, xs, sq_of (e1 l _ hl)⟩, h H1 e1 _ fun H2 e2 => ⟨l, b, xs, ys, rfl, rfl, e2 l _ (e1 l _ hl), e2 _ _ (e1 _ _ hb), hz, k H2 (e1.trans e2)⟩⟩
theorem q_callA {sp : Sp} {vs : List V} {H : Hp} {σ : L2.St} {t : TA} {i : Nat} {tz : TS} {D : Ends} {E : XK} (ha : EvA t σ H vs) (hs : ∀ H1, Ex H H1 → sp vs H1 (fun v H2 => tz D (σ.set i (some v)) H2) E) : tSeq (tAsg (tCall sp [] E t) (gName i)) tz D σ H :=
  ha H (Ex.refl H) _ fun H1 e1 => by
    rw [List.append_nil]
    exact hs H1 e1
theorem ok_aa {fA : Addr} {fd : FuncData} (F0 : Fun K "answers" "answers" (tp 30) fA fd) (T : Tx K mg CA CD CR) {aN aW : Addr} (U : Tt K mg aN aW) (h1 : KOk P w K mg base CX0 1 "Desk" CD ["self"] (spDI CD)) (h2 : GOk P w K mg base CX0 9 "answered" ["desk", "call", "n", "row"] (spAd K CD CA)) :
    FnOk P w K mg base CX0 10 fA fd ["calls"] (spAns K) := by
  refine F0.ok sc_aa (fun vs H Q E h => ?_) (fun cdv A outer s H vs Q E hr h => ?_)
  · obtain ⟨_, _, rfl, _⟩ := h
    rfl
  obtain ⟨lc, L, rfl, hL, hlen, hask, k⟩ := h
  obtain ⟨raw, hraw, hans, hshort⟩ := asked_some hask
  refine ⟨_, pss_cons (ps_set (i := 1) sc_aa.nd rfl (Or.inl rfl) (pK0 h1 (hr.mono (by decide)) rfl pass0))
    (pss_cons (ps_set (i := 2) sc_aa.nd rfl (Or.inl rfl) (pe_lst pa_nil))
    (pss_cons (ps_set (i := 3) sc_aa.nd rfl (Or.inl rfl) pe_int)
    (pss_cons (ps_while PassesOwn.never (pt_cmpR op_lt (pv 3) (pe_callB call_len_seq (by rfl) T.len (by decide +kernel) (pa_cons (pv 0) pa_nil)) (nomark _))
      (pss_cons (ps_set (i := 4) sc_aa.nd rfl (Or.inl rfl) (pe_ix ix_list (pv 0) (pv 3) (fun _ _ => rfl)))
      (pss_cons (ps_set (i := 5) sc_aa.nd rfl (Or.inl rfl) (pe_op op_add (pe_op op_add (pv 3) pe_int) (pe_ix ix_tup (pe_glob (v := .ref aN) rfl U.gN rfl) (pv 4) (fun _ _ => rfl))))
      (pss_cons (ps_par (i := 6) (j := 7) rfl sc_aa.nd rfl rfl (by decide) rfl rfl (pa_cons (pe_slice sl_list (pv 0) (po_some (pe_op op_add (pv 3) pe_int)) (po_some (pv 5))) (pa_cons (pe_lst pa_nil) pa_nil)) (by rfl))
      (pss_cut (ps_if (pt_cmpR op_in_seq (pv 4) (pe_glob (v := .ref aW) rfl U.gW rfl) (by rfl))
          (pss_cons (ps_set (i := 8) sc_aa.nd rfl (Or.inl rfl) (pe_op op_add (pe_op op_add (pv 5) pe_int) (pe_ix ix_list (pv 0) (pv 5) (fun _ _ => rfl))))
          (pss_cons (ps_set (i := 7) sc_aa.nd rfl (Or.inl rfl) (pe_slice sl_list (pv 0) (po_some (pe_op op_add (pv 5) pe_int)) (po_some (pv 8))))
          (pss_one (ps_set (i := 5) sc_aa.nd rfl (Or.inl rfl) (pv 8))))) pss_nil)
      (pss_cons (ps_set (i := 9) sc_aa.nd rfl (Or.inl rfl) (pG h2 hr rfl pass0 (pa_cons (pv 1) (pa_cons (pv 4) (pa_cons (pv 6) (pa_cons (pv 7) pa_nil))))))
      (pss_cons (ps_expr (pe_bm PySem.F.plainAttrs_list PySem.F.slot_list_append PySem.F.type_list_append mt_append (pv 2) (pa_cons (pe_callB call_len_seq (by rfl) T.len (by decide +kernel) (pa_cons (pv 9) pa_nil)) pa_nil)))
      (pss_cons (ps_expr (pe_bm PySem.F.plainAttrs_list PySem.F.slot_list_extend PySem.F.type_list_extend mt_extend (pv 2) (pa_cons (pv 9) pa_nil)))
      (pss_one (ps_set (i := 3) sc_aa.nd rfl (Or.inl rfl) (pv 5)))))))))))
    (pss_one (ps_ret (pv 2)))))), ?_⟩
  -- desk = Desk()
  intro d dx nd ndx ne
  refine ⟨d, dx, rfl, upd_same, fun H1 hd1 kp => ⟨rfl, ?_⟩⟩
  have e1 : Ex H H1 := fun b o e => kp b o (by rw [upd_ne (ne_of_none e nd), upd_ne (ne_of_none e ndx)]; exact e) (ne_of_none e nd)
  -- found = []
  refine q_asgL (el_lst ea_nil (by show 0 ≤ 100000; decide)) fun r H2 nr e2 hr2 => ?_
  refine q_asg ev_c fun H3 e3 => ?_
  have nrH : H r = none := fresh_back e1 nr
  refine q_while (fun m σ H' => ∃ (kk : Nat) (x : Krdk.Abs) (F : List Int) (cs : List (List (List Int))) (f : Nat) (v4 v5 v6 v7 v8 v9 : Option V),
    σ = [some (.ref lc), some (.ref d), some (.ref r), some (.int (kk : Int)), v4, v5, v6, v7, v8, v9] ∧ m = L.length - kk ∧ PyFlat.calls PyKrdk.shape f (zs (L.drop kk)) = some cs ∧
    F ++ PyFlat.told (PyFlat.played KrdkNeutral.step x cs) = PyKrdk.answers (zs L) ∧ Ex H H' ∧ DeskAt CD CA H' d x ∧ H' r = some (.lst (F.map V.int))) L.length
    ⟨0, none, [], raw, L.length, none, none, none, none, none, none, rfl, rfl, ?_, ?_, (e1.trans e2).trans e3, ?_, e3 _ _ hr2⟩ ?_
  · rw [zs_len] at hraw
    exact hraw
  · rw [hans]
    rfl
  · exact ⟨dx, e3 _ _ (e2 _ _ hd1)⟩
  rintro m σ' H' ⟨kk, x, F, cs, f, v4, v5, v6, v7, v8, v9, rfl, rfl, hcs, hF, e, hd, hrr⟩
  refine ⟨decide ((kk : Int) < ((nV L).length : Int)), et_test (ev_op (ev_var rfl) (ev_lenV (ev_var rfl) (ex_l e hL)) rv_I0), fun hb H4 e4 => ?_, fun hb H4 e4 => ?_⟩
  · have hk := of_decide_eq_true hb
    rw [nV_len] at hk
    have hk : kk < L.length := by omega
    cases cs with
    | nil => exact absurd (parse_nil hcs) (by omega)
    | cons c cs =>
      obtain ⟨p, ns, rs, k', f', S, hcall, hcs', _⟩ := parse_step hcs
      have e0 := e.trans e4
      refine ⟨fun σ2 H2 => ∃ (x' : Krdk.Abs) (F' : List Int) (v4 v5 v6 v7 v8 v9 : Option V), σ2 = [some (.ref lc), some (.ref d), some (.ref r), some (.int (k' : Int)), v4, v5, v6, v7, v8, v9] ∧
        F' ++ PyFlat.told (PyFlat.played KrdkNeutral.step x' cs) = PyKrdk.answers (zs L) ∧ Ex H H2 ∧ DeskAt CD CA H2 d x' ∧ H2 r = some (.lst (F'.map V.int)), ?_, ?_⟩
      · rintro σ2 H2 ⟨x', F', v4, v5, v6, v7, v8, v9, rfl, q1, q2, q3, q4⟩
        exact ⟨L.length - k', by have := S.up; have := S.le; omega, k', x', F', cs, f', v4, v5, v6, v7, v8, v9, rfl, rfl, hcs', q1, q2, q3, q4⟩
      -- call = calls[at]
      refine q_asg (ev_op (ev_var rfl) (ev_var rfl) (rv_ixL (ex_l e0 hL) (L_at S.at_))) fun H5 e5 => ?_
      replace e0 := e0.trans e5
      -- behind = at + 1 + NUMBERS[call]
      refine q_asg (v := .int ((kk + 1 + numsOf p : Nat) : Int)) (ev_is (ev_op (ev_op (ev_var rfl) ev_c rv_I0) (ev_op ev_c (ev_var rfl) (rv_ixT (U.tN _) (num_at S.lt))) rv_I0) ?_) fun H6 e6 => ?_
      · congr 1
      replace e0 := e0.trans e6
      -- n, row = calls[at + 1:behind], []
      have hns : cutV (nV L) (some ((kk : Int) + 1)) (some ((kk + 1 + numsOf p : Nat) : Int)) = nV ns := by
        have z := cut_nV L (a := kk + 1) (b := kk + 1 + numsOf p) (by omega)
        rw [show ((kk : Int) + 1) = ((kk + 1 : Nat) : Int) by omega, z, S.ns_, show kk + 1 + numsOf p - (kk + 1) = numsOf p by omega]
      have hsl : EvL (tSl (rSlL K) (tVar 0) (tPart (tOp (rI0 fun i j => .int (i + j)) (tVar 3) (tC (.int 1)))) (tPart (tVar 5))) [some (.ref lc), some (.ref d), some (.ref r), some (.int (kk : Int)), some (.int (p : Int)), some (.int ((kk + 1 + numsOf p : Nat) : Int)), v6, v7, v8, v9] H6 (nV ns) := by
        rw [← hns]
        exact el_sl (ev_var rfl) (eo_some (ev_op (ev_var rfl) ev_c rv_I0)) (eo_some (ev_var rfl)) (ex_l e0 hL)
      refine hsl H6 (Ex.refl H6) _ fun ln H7 nn e7 hn7 => ?_
      refine (el_lst (σ := [some (.ref lc), some (.ref d), some (.ref r), some (.int (kk : Int)), some (.int (p : Int)), some (.int ((kk + 1 + numsOf p : Nat) : Int)), v6, v7, v8, v9]) ea_nil (by show 0 ≤ 100000; decide) : EvL (tLst tNil) _ H7 []) H7 (Ex.refl H7) _ fun l0 H8 n0 e8 h8 => ?_
      refine ⟨_, _, rfl, ?_⟩
      have e68 := e7.trans e8
      replace e0 := e0.trans e68
      have hn8 := e8 _ _ hn7
      have eH : Ex H' H8 := ((e4.trans e5).trans e6).trans e68
      -- if call in WITH_LIST
      refine q_cut (M := fun σ2 H2 => ∃ (lr : Addr) (v8 v9 : Option V), σ2 = [some (.ref lc), some (.ref d), some (.ref r), some (.int (kk : Int)), some (.int (p : Int)), some (.int (k' : Int)), some (.ref ln), some (.ref lr), v8, v9] ∧ Ex H8 H2 ∧ SqL K H2 lr (nV rs)) ?_ ?_
      · refine s_when (b := withList p) (et_is (et_test (ev_op (ev_var rfl) ev_c (rv_isT (U.tW _) rfl (flat_nV _)))) in_with) (fun hb H9 e9 => ?_) (fun hb H9 e9 => ?_)
        · obtain ⟨mm, m1, m2, m3, m4⟩ := S.yes hb
          refine q_asg (v := .int (k' : Int)) (ev_is (ev_op (ev_op (ev_var rfl) ev_c rv_I0) (ev_op (ev_var rfl) (ev_var rfl) (rv_ixL (ex_l (e0.trans e9) hL) (L_at m1))) rv_I0) ?_) fun H10 e10 => ?_
          · congr 1
            omega
          have hrs : cutV (nV L) (some (((kk + 1 + numsOf p : Nat) : Int) + 1)) (some (k' : Int)) = nV rs := by
            have z := cut_nV L (a := kk + 1 + numsOf p + 1) (b := k') (by omega)
            rw [show (((kk + 1 + numsOf p : Nat) : Int) + 1) = ((kk + 1 + numsOf p + 1 : Nat) : Int) by omega, z, m2, show k' - (kk + 1 + numsOf p + 1) = mm by omega]
          refine q_asgL (EvL.is (el_sl (ev_var rfl) (eo_some (ev_op (ev_var rfl) ev_c rv_I0)) (eo_some (ev_var rfl)) (ex_l ((e0.trans e9).trans e10) hL)) hrs) fun lr H11 n11 e11 h11 => ?_
          refine s_asg (ev_var rfl) fun H12 e12 => ⟨lr, _, _, rfl, ((e9.trans e10).trans e11).trans e12, sq_of (e12 _ _ h11)⟩
        · obtain ⟨m1, m2⟩ := S.no hb
          subst m1 m2
          exact ⟨l0, _, _, rfl, e9, sq_of (e9 _ _ h8)⟩
      · rintro σ2 H9 ⟨lr, v8, v9, rfl, e9, hlr⟩
        have hd9 := deskAt_up hd (eH.trans e9)
        have hr9 := e9 _ _ (eH _ _ hrr)
        have rl : rs.length ≤ 20000 := by
          cases hw : withList p with
          | false =>
            rw [(S.no hw).1]
            decide
          | true =>
            obtain ⟨mm, m1, m2, m3, m4⟩ := S.yes hw
            have := S.le
            omega
        -- what is answered
        have hst : KrdkNeutral.step x c = ((Krdk.act x (callOf p ns rs)).1, KrdkNeutral.told (Krdk.act x (callOf p ns rs)).2) := by
          unfold KrdkNeutral.step
          rw [hcall]
        have hpl : PyFlat.told (PyFlat.played KrdkNeutral.step x (c :: cs)) = ((KrdkNeutral.told (Krdk.act x (callOf p ns rs)).2).length : Int) :: (KrdkNeutral.told (Krdk.act x (callOf p ns rs)).2) ++ PyFlat.told (PyFlat.played KrdkNeutral.step (Krdk.act x (callOf p ns rs)).1 cs) := by
          rw [PyFlat.played, hst]
          rfl
        rw [hpl] at hF
        refine q_callA (ea_cons (ev_var rfl) (ea_cons (ev_var rfl) (ea_cons (ev_var rfl) (ea_cons (ev_var rfl) ea_nil)))) fun H10 e10 => ?_
        refine ⟨d, x, p, ln, ns, lr, rs, rfl, deskAt_up hd9 e10, sq_of (e10 _ _ (e9 _ _ hn8)), ex_l e10 hlr, S.lt, S.len, rl, ?_⟩
        generalize (Krdk.act x (callOf p ns rs)).1 = x' at hF
        generalize KrdkNeutral.told (Krdk.act x (callOf p ns rs)).2 = out at hF
        intro H11 q hdq kpq nq hq
        have hr10 := e10 _ _ hr9
        obtain ⟨dx', v', hd10⟩ := desk_ins (deskAt_up hd9 e10)
        have rq : q ≠ r := (ne_of_none hr10 nq).symm
        have rd : r ≠ d := ne_of hr10 hd10 (by intro z; cases z)
        have hr11 := kpq _ _ hr10 rd
        have eH11 : Ex H H11 := fun b o z => kpq b o (((e0.trans e9).trans e10) b o z) (ne_of_none z nd)
        have hz : F.length + (out.length + 1) ≤ 10000000 := by
          have z := congrArg List.length hF
          rw [List.length_append, List.length_append, List.length_cons] at z
          omega
        have hsl : (10000000 : Nat) < sizeLine := by decide
        have eq1 : F.map V.int ++ [V.int ((out.map V.int).length : Int)] = (F ++ [(out.length : Int)]).map V.int := by simp
        have eq2 : (F ++ [(out.length : Int)]).map V.int ++ out.map V.int = (F ++ ((out.length : Int) :: out)).map V.int := by simp
        refine q_appZ hr11 (ev_var rfl) (ev_lenV (ev_var rfl) (sq_of hq)) (by rw [List.length_map]; omega) fun H12 e12 => ?_
        rw [eq1]
        have hd12 := desk_upd (o := .lst ((F ++ [(out.length : Int)]).map V.int)) (deskAt_up hdq e12) (e12 _ _ hr11)
        have eH12 : Ex H (upd H12 r (.lst ((F ++ [(out.length : Int)]).map V.int))) := Ex.mut (eH11.trans e12) nrH
        refine q_extZ upd_same (b := q) (ys := out.map V.int) (by rw [upd_ne rq]; exact e12 _ _ hq) (ev_var rfl) (ev_var rfl) (by rw [List.length_map, List.length_map, List.length_append]; show F.length + 1 + out.length ≤ sizeLine; omega) fun H13 e13 => ?_
        rw [eq2]
        have hr13 := e13 _ _ (upd_same (H := H12) (a := r) (o := .lst ((F ++ [(out.length : Int)]).map V.int)))
        have hd13 := desk_upd (o := .lst ((F ++ ((out.length : Int) :: out)).map V.int)) (deskAt_up hd12 e13) hr13
        have eH13 : Ex H (upd H13 r (.lst ((F ++ ((out.length : Int) :: out)).map V.int))) := Ex.mut (eH12.trans e13) nrH
        refine s_asg (ev_var rfl) fun H14 e14 => ⟨x', F ++ ((out.length : Int) :: out), _, _, _, _, _, _, rfl, ?_, eH13.trans e14, deskAt_up hd13 e14, e14 _ _ upd_same⟩
        rw [← hF, List.append_assoc]
  · have hk := of_decide_eq_false hb
    rw [nV_len] at hk
    have hdr : L.drop kk = [] := List.drop_eq_nil_iff.mpr (by omega)
    rw [hdr] at hcs
    have hcs0 : cs = [] := by
      cases f with
      | zero => exact (Option.some.inj hcs).symm
      | succ f => exact (Option.some.inj hcs).symm
    subst hcs0
    have hF' : F = PyKrdk.answers (zs L) := by
      rw [← hF]
      show F = F ++ []
      rw [List.append_nil]
    refine s_ret (ev_var rfl) fun H5 e5 => k H5 r ?_
    rw [← hF']
    exact e5 _ _ (e4 _ _ hrr)
end Bw
namespace Bw
open PySem PySem.Spec PyProof.Rows L2 Evl
/-! ### the end: what the top has written -/
/-- the module's name x is the def st of the text -/
def GRaw (K : PySem.W.Frag) (x : Str) (st : Stmt) : Prop := ∃ (f : Addr) (oc : Value) (od an : Option Addr) (sl : Array (Option Value)) (kV dc pm cd ct : Value),
  PySem.W.nsIn K mainGlobals x = some (some (.ref f)) ∧ K.lookup f = some ⟨oc, od, .func (PySem.W.fnOf x x (defArgs st) (defBody st) (defScope st) .none kV dc pm an cd ct), sl⟩ ∧ PySem.W.codeIn K cd x = true ∧ PySem.W.keepIn K (.ref f) = true
/-- the class at C has the method x, the def st of the text -/
def MRaw (K : PySem.W.Frag) (C : Addr) (x qual : Str) (st : Stmt) : Prop := ∃ (f : Addr) (oc : Value) (od an : Option Addr) (sl : Array (Option Value)) (kV dc pm cd ct : Value),
  PySem.W.findIn K (.ref C) x = some (some (.ref f)) ∧ PySem.W.isFn K (.ref f) = true ∧ K.lookup f = some ⟨oc, od, .func (PySem.W.fnOf x qual (defArgs st) (defBody st) (defScope st) .none kV dc pm an cd ct), sl⟩ ∧ PySem.W.codeIn K cd qual = true ∧ PySem.W.keepIn K (.ref f) = true
theorem GRaw.of {K : PySem.W.Frag} {x : Str} {st : Stmt} {f : Addr} {oc : Value} {od an : Option Addr} {sl : Array (Option Value)} {kV dc pm cd ct : Value} (a : PySem.W.nsIn K mainGlobals x = some (some (.ref f)))
    (l : K.lookup f = some ⟨oc, od, .func (PySem.W.fnOf x x (defArgs st) (defBody st) (defScope st) .none kV dc pm an cd ct), sl⟩) (c : PySem.W.codeIn K cd x = true) (k : PySem.W.keepIn K (.ref f) = true) : GRaw K x st := ⟨f, oc, od, an, sl, kV, dc, pm, cd, ct, a, l, c, k⟩
theorem MRaw.of {K : PySem.W.Frag} {C : Addr} {x qual : Str} {st : Stmt} {f : Addr} {oc : Value} {od an : Option Addr} {sl : Array (Option Value)} {kV dc pm cd ct : Value} (a : PySem.W.findIn K (.ref C) x = some (some (.ref f))) (i : PySem.W.isFn K (.ref f) = true)
    (l : K.lookup f = some ⟨oc, od, .func (PySem.W.fnOf x qual (defArgs st) (defBody st) (defScope st) .none kV dc pm an cd ct), sl⟩) (c : PySem.W.codeIn K cd qual = true) (k : PySem.W.keepIn K (.ref f) = true) : MRaw K C x qual st := ⟨f, oc, od, an, sl, kV, dc, pm, cd, ct, a, i, l, c, k⟩
def intOf : Value → Option Int
  | .int i _ => some i
  | _ => none
theorem vals_nat : ∀ (l : List Nat) (us : List Value), us.map intOf = l.map (fun (x : Nat) => some (x : Int)) → Vals (nV l) us
  | [], [], _ => .nil
  | [], _ :: _, h => by cases h
  | _ :: _, [], h => by cases h
  | x :: l, u :: us, h => by
    have h1 := (List.cons.inj h).1
    have h2 := (List.cons.inj h).2
    refine .cons ?_ (vals_nat l us h2)
    cases u with
    | int i t =>
      have e : i = (x : Int) := Option.some.inj h1
      exact ⟨t, by rw [e]⟩
    | _ => cases h1
theorem GRaw.mk {K : PySem.W.Frag} {mg : Str → Option Value} {h : Heap} {x : Str} {st : Stmt} {ps : List Str} (R : GRaw K x st) (X : K.In h) (G : h.Ns mainGlobals mg)
    (hb : ∀ (kV doc pm : Value) (an : Option Addr) (cdv ct : Value) (us : List Value), us.length = ps.length → bindArgs (PySem.W.fnOf x x (defArgs st) (defBody st) (defScope st) .none kV doc pm an cdv ct) ⟨us, []⟩ = pure (ps.zip us)) : GDef K mg x st ps := by
  obtain ⟨f, oc, od, an, sl, kV, dc, pm, cd, ct, a, l, c, k⟩ := R
  exact ⟨f, _, fun_mk l c k, (fun_mk l c k).binds hb, PySem.W.mg_of X G a⟩
theorem MRaw.mk {K : PySem.W.Frag} {C : Addr} {x qual : Str} {st : Stmt} {ps : List Str} (R : MRaw K C x qual st)
    (hb : ∀ (kV doc pm : Value) (an : Option Addr) (cdv ct : Value) (us : List Value), us.length = ps.length → bindArgs (PySem.W.fnOf x qual (defArgs st) (defBody st) (defScope st) .none kV doc pm an cdv ct) ⟨us, []⟩ = pure (ps.zip us)) : MDef K C x qual st ps := by
  obtain ⟨f, oc, od, an, sl, kV, dc, pm, cd, ct, a, i, l, c, k⟩ := R
  exact ⟨f, _, fun_mk l c k, (fun_mk l c k).binds hb, ⟨a, i, k⟩⟩
/-- an error of the class at S is what «except S» names -/
theorem exm_self {K : PySem.W.Frag} {S : Addr} (h1 : PySem.W.subIn K (.ref S) (.type "BaseException") = some true) (h2 : PySem.W.isClsIn K S = true) (h3 : PySem.W.typeIn K (.ref S) = some (.type "type")) (h4 : PySem.W.subIn K (.ref S) (.ref S) = some true) :
    PySem.W.exmOne K (.ref S) (.ref S) = some true := by
  have e1 : (PySem.W.subIn K (.ref S) (.type "BaseException") == some true) = true := by rw [h1] <;> rfl
  have e2 : ((PySem.W.clsIn K S).isSome && PySem.W.typeIn K (.ref S) == some (.type "type")) = true := by
    have h2' : (PySem.W.clsIn K S).isSome = true := h2
    rw [h2', h3] <;> rfl
  show (if (PySem.W.subIn K (.ref S) (.type "BaseException") == some true) = true then (if ((PySem.W.clsIn K S).isSome && PySem.W.typeIn K (.ref S) == some (.type "type")) = true then PySem.W.subIn K (.ref S) (.ref S) else none) else none) = some true
  rw [if_pos e1, if_pos e2]
  exact h4
theorem all_mk {P : Program} {w : World} {K : PySem.W.Frag} {h : Heap} {mg : Str → Option Value} {fa CA CD CR fR aN aW : Addr} (X : K.In h) (G : h.Ns mainGlobals mg) (hfa : mg "answers" = some (.ref fa))
    {nm q : Str} {N : Addr} {bs : List Value} {sn : List Str} {sub : List Value} {ab : Bool} {col : Option Bool} {dd : Option Addr} {m0 m1 m2 m3 m5 : Option Value} {t_kNB t_kNG t_kNR t_kMB t_kMT t_kGN : Tok}
    {od_aN od_aW : Option Addr} {its_aN its_aW : Array Value} {n_aN n_aW : Nat} {sl_aN sl_aW : Array (Option Value)}
    (aCA : PySem.W.nsIn K mainGlobals "Answer" = some (some (.ref CA)))
    (aCD : PySem.W.nsIn K mainGlobals "Desk" = some (some (.ref CD)))
    (aCR : PySem.W.nsIn K mainGlobals "Refused" = some (some (.ref CR)))
    (pgCA : PySem.W.plainGet K CA Str.empty = true)
    (hdCA : PySem.W.hasDictIn K CA = true)
    (poCA : PySem.W.plainOver K CA = true)
    (saCA : PySem.W.findIn K (.ref CA) "__setattr__" = some (some (.builtin "object.__setattr__")))
    (mkCA : PySem.W.makesIn K CA = true)
    (kpCA : PySem.W.keepIn K (.ref CA) = true)
    (pgCD : PySem.W.plainGet K CD Str.empty = true)
    (hdCD : PySem.W.hasDictIn K CD = true)
    (poCD : PySem.W.plainOver K CD = true)
    (saCD : PySem.W.findIn K (.ref CD) "__setattr__" = some (some (.builtin "object.__setattr__")))
    (mkCD : PySem.W.makesIn K CD = true)
    (kpCD : PySem.W.keepIn K (.ref CD) = true)
    (nM : PySem.W.findIn K (.ref CA) "many" = some none)
    (nS : PySem.W.findIn K (.ref CA) "says" = some none)
    (nO : PySem.W.findIn K (.ref CD) "own" = some none)
    (xR : K.lookup CR = some (excClassObj nm q CR N bs [.type "ValueError", .type "Exception", .type "BaseException", .type "object"] true sn sub ab col dd m0 m1 m2 m3 m5 "ValueError.__new__"))
    (saR : PySem.W.findIn K (.ref CR) "__setattr__" = some (some (.builtin "object.__setattr__")))
    (gaR : PySem.W.findIn K (.ref CR) "__getattribute__" = some (some (.builtin "BaseException.__getattribute__")))
    (ggR : PySem.W.findIn K (.ref CR) "__getattr__" = some none)
    (nR : PySem.W.findIn K (.ref CR) "refusal" = some none)
    (kR : PySem.W.keepIn K (.ref CR) = true)
    (eR : PySem.W.subIn K (.ref CR) (.type "BaseException") = some true)
    (tR : PySem.W.typeIn K (.ref CR) = some (.type "type"))
    (hR : PySem.W.hasDictIn K CR = true)
    (iR : PySem.W.isClsIn K CR = true)
    (sR : PySem.W.subIn K (.ref CR) (.ref CR) = some true)
    (vV : PySem.W.findCls K (.type "ValueError") (.type "type") "__init__" = some (.val (.builtin "ValueError.__init__")))
    (ICA : MRaw K CA "__init__" "Answer.__init__" (sA 0))
    (ICD : MRaw K CD "__init__" "Desk.__init__" (sD 0))
    (ICR : MRaw K CR "__init__" "Refused.__init__" (inClass (tp 19) 0))
    (tI : PySem.W.typeIn K (.ref fR) = some (.type "function"))
    (fIR : PySem.W.findIn K (.ref CR) "__init__" = some (some (.ref fR)))
    (z_len : PySem.W.nsIn K mainGlobals "len" = some none)
    (z_sum : PySem.W.nsIn K mainGlobals "sum" = some none)
    (z_all : PySem.W.nsIn K mainGlobals "all" = some none)
    (z_abs : PySem.W.nsIn K mainGlobals "abs" = some none)
    (z_max : PySem.W.nsIn K mainGlobals "max" = some none)
    (z_range : PySem.W.nsIn K mainGlobals "range" = some none)
    (z_enum : PySem.W.nsIn K mainGlobals "enumerate" = some none)
    (z_list : PySem.W.nsIn K mainGlobals "list" = some none)
    (z_int : PySem.W.nsIn K mainGlobals "int" = some none)
    (z_ve : PySem.W.nsIn K mainGlobals "ValueError" = some none)
    (c_kNB : PySem.W.nsIn K mainGlobals "NO_BIT" = some (some (.int (-2) t_kNB)))
    (c_kNG : PySem.W.nsIn K mainGlobals "NOT_BEGUN" = some (some (.int (-11) t_kNG)))
    (c_kNR : PySem.W.nsIn K mainGlobals "NOT_RIGHT" = some (some (.int (-22) t_kNR)))
    (c_kMB : PySem.W.nsIn K mainGlobals "MOST_BITS" = some (some (.int 5 t_kMB)))
    (c_kMT : PySem.W.nsIn K mainGlobals "MOST_TOLD" = some (some (.int 32 t_kMT)))
    (c_kGN : PySem.W.nsIn K mainGlobals "GREATEST_NUMBER" = some (some (.int 9 t_kGN)))
    (gaN : PySem.W.nsIn K mainGlobals "NUMBERS" = some (some (.ref aN)))
    (laN : K.lookup aN = some ⟨.type "tuple", od_aN, .seq its_aN n_aN, sl_aN⟩)
    (gaW : PySem.W.nsIn K mainGlobals "WITH_LIST" = some (some (.ref aW)))
    (laW : K.lookup aW = some ⟨.type "tuple", od_aW, .seq its_aW n_aW, sl_aW⟩)
    (s_aN : its_aN.size ≤ sizeLine)
    (s_aW : its_aW.size ≤ sizeLine)
    (v_aN : Vals (nV numbers) its_aN.toList)
    (v_aW : Vals (nV [1, 2]) its_aW.toList)
    (G_divisor_of : GRaw K "divisor_of" (tp 1))
    (G_fraction : GRaw K "fraction" (tp 2))
    (G_many_words : GRaw K "many_words" (tp 4))
    (G_has_bit : GRaw K "has_bit" (tp 5))
    (G_many_bits : GRaw K "many_bits" (tp 6))
    (G_is_odd : GRaw K "is_odd" (tp 7))
    (G_turned : GRaw K "turned" (tp 8))
    (G_answer_for : GRaw K "answer_for" (tp 11))
    (G_want : GRaw K "want" (tp 20))
    (G_of_answers : GRaw K "of_answers" (tp 25))
    (G_of_sways : GRaw K "of_sways" (tp 26))
    (G_of_sides : GRaw K "of_sides" (tp 27))
    (G_told : GRaw K "told" (tp 28))
    (G_answered : GRaw K "answered" (tp 29))
    (A_size : MRaw K CA "size" "Answer.size" (sA 1))
    (A_words : MRaw K CA "words" "Answer.words" (sA 2))
    (A_many_yes : MRaw K CA "many_yes" "Answer.many_yes" (sA 3))
    (A_is_swayed : MRaw K CA "is_swayed" "Answer.is_swayed" (sA 4))
    (A_many_swayed : MRaw K CA "many_swayed" "Answer.many_swayed" (sA 5))
    (A_all_swayed : MRaw K CA "all_swayed" "Answer.all_swayed" (sA 6))
    (A_sides : MRaw K CA "sides" "Answer.sides" (sA 7))
    (A_sum_for : MRaw K CA "sum_for" "Answer.sum_for" (sA 8))
    (A_sums : MRaw K CA "sums" "Answer.sums" (sA 9))
    (A_part : MRaw K CA "part" "Answer.part" (sA 10))
    (A_level : MRaw K CA "level" "Answer.level" (sA 11))
    (A_is_rising : MRaw K CA "is_rising" "Answer.is_rising" (sA 12))
    (D_answer : MRaw K CD "answer" "Desk.answer" (sD 1))
    (D_begin : MRaw K CD "begin" "Desk.begin" (sD 2))
    (D_put : MRaw K CD "put" "Desk.put" (sD 3))
    (D_is_word : MRaw K CD "is_word" "Desk.is_word" (sD 4))
    (D_want_bit : MRaw K CD "want_bit" "Desk.want_bit" (sD 5))
    (D_all_words : MRaw K CD "all_words" "Desk.all_words" (sD 6))
    (D_told : MRaw K CD "told" "Desk.told" (sD 7))
    (D_weight : MRaw K CD "weight" "Desk.weight" (sD 8))
    (D_least : MRaw K CD "least" "Desk.least" (sD 9))
    (D_odd : MRaw K CD "odd" "Desk.odd" (sD 10))
    (D_bit : MRaw K CD "bit" "Desk.bit" (sD 11))
    (D_turn_about : MRaw K CD "turn_about" "Desk.turn_about" (sD 12))
    (D_turn : MRaw K CD "turn" "Desk.turn" (sD 13))
    (D_set_word : MRaw K CD "set_word" "Desk.set_word" (sD 14))
    (D_ask : MRaw K CD "ask" "Desk.ask" (sD 15))
    (D_mean : MRaw K CD "mean" "Desk.mean" (sD 16))
    (D_sway : MRaw K CD "sway" "Desk.sway" (sD 17))
    (D_all_sways : MRaw K CD "all_sways" "Desk.all_sways" (sD 18))
    (D_even : MRaw K CD "even" "Desk.even" (sD 19))
    (D_part : MRaw K CD "part" "Desk.part" (sD 20))
    (D_parts : MRaw K CD "parts" "Desk.parts" (sD 21))
    (D_levels : MRaw K CD "levels" "Desk.levels" (sD 22))
    (D_sides : MRaw K CD "sides" "Desk.sides" (sD 23))
    (D_fewest : MRaw K CD "fewest" "Desk.fewest" (sD 24))
    (D_rising : MRaw K CD "rising" "Desk.rising" (sD 25))
    (D_idle : MRaw K CD "idle" "Desk.idle" (sD 26))
    (D_most : MRaw K CD "most" "Desk.most" (sD 27))
    (D_state : MRaw K CD "state" "Desk.state" (sD 28))
    (R_ans : GRaw K "answers" (tp 30))
    : ∃ fd : FuncData, (∀ (s : Shared) (us : List Value), us.length = (["calls"] : List Str).length → BindsTo s fd ⟨us, []⟩ ((["calls"] : List Str).zip us)) ∧ ∀ base : Heap, K.In base → base.Ns mainGlobals mg → FnOk P w K mg base CX0 10 fa fd ["calls"] (spAns K) := by
  obtain ⟨f, oc, od, an, sl, kV, dc, pm, cd, ct, a, l, c, k⟩ := R_ans
  have e := hfa.symm.trans (PySem.W.mg_of X G a)
  cases e
  have F0 := fun_mk (st := tp 30) l c k
  have oex : OexC K CR := ⟨⟨nm, q, N, bs, _, sn, sub, ab, col, dd, m0, m1, m2, m3, m5, xR, by decide +kernel⟩, saR, eR, tR, kR⟩
  have T : Tx K mg CA CD CR := {
    len := PySem.W.mg_none_of X G z_len
    sum := PySem.W.mg_none_of X G z_sum
    all := PySem.W.mg_none_of X G z_all
    abs := PySem.W.mg_none_of X G z_abs
    max := PySem.W.mg_none_of X G z_max
    range := PySem.W.mg_none_of X G z_range
    enum := PySem.W.mg_none_of X G z_enum
    list := PySem.W.mg_none_of X G z_list
    int := PySem.W.mg_none_of X G z_int
    ve := PySem.W.mg_none_of X G z_ve
    cA := ⟨pgCA, hdCA, poCA, saCA⟩
    nM := nM
    nS := nS
    cD := ⟨pgCD, hdCD, poCD, saCD⟩
    nO := nO
    gR := PySem.W.mg_of X G aCR
    oex := oex
    nR := nR
    xf := ⟨gaR, ggR, eR, hR⟩
    eR := exm_self eR iR tR sR
    vV := vV
    kNB := ⟨_, PySem.W.mg_of X G c_kNB⟩
    kNG := ⟨_, PySem.W.mg_of X G c_kNG⟩
    kNR := ⟨_, PySem.W.mg_of X G c_kNR⟩
    kMB := ⟨_, PySem.W.mg_of X G c_kMB⟩
    kMT := ⟨_, PySem.W.mg_of X G c_kMT⟩
    kGN := ⟨_, PySem.W.mg_of X G c_kGN⟩
  }
  have U : Tt K mg aN aW := ⟨PySem.W.mg_of X G gaN, PySem.W.mg_of X G gaW, fun _ => .inr ⟨_, _, _, laN, rfl, rfl, s_aN, v_aN⟩, fun _ => .inr ⟨_, _, _, laW, rfl, rfl, s_aW, v_aW⟩⟩
  obtain ⟨fA, ocA, odA, anA, slA, kVA, dcA, pmA, cdA, ctA, aA, iA, lA, coA, kA⟩ := ICA
  obtain ⟨fD, ocD, odD, anD, slD, kVD, dcD, pmD, cdD, ctD, aD, iD, lD, coD, kD⟩ := ICD
  obtain ⟨fX, ocX, odX, anX, slX, kVX, dcX, pmX, cdX, ctX, aX, iX, lX, coX, kX⟩ := ICR
  have eX : fX = fR := by
    have z := aX.symm.trans fIR
    cases z
    rfl
  subst eX
  have FA := fun_mk (st := sA 0) lA coA kA
  have FD := fun_mk (st := sD 0) lD coD kD
  have FX := fun_mk (st := inClass (tp 19) 0) lX coX kX
  have bA := FA.binds (ps := ["self", "many", "says"]) fun _ _ _ _ _ _ us hl => match us, hl with | [_, _, _], _ => rfl
  have bD := FD.binds (ps := ["self"]) fun _ _ _ _ _ _ us hl => match us, hl with | [_], _ => rfl
  have bX := FX.binds (ps := ["self", "refusal"]) fun _ _ _ _ _ _ us hl => match us, hl with | [_, _], _ => rfl
  have g_divisor_of : GDef K mg "divisor_of" (tp 1) ["one", "other"] := G_divisor_of.mk X G fun _ _ _ _ _ _ us hl => match us, hl with | [_, _], _ => rfl
  have g_fraction : GDef K mg "fraction" (tp 2) ["upper", "lower"] := G_fraction.mk X G fun _ _ _ _ _ _ us hl => match us, hl with | [_, _], _ => rfl
  have g_many_words : GDef K mg "many_words" (tp 4) ["many"] := G_many_words.mk X G fun _ _ _ _ _ _ us hl => match us, hl with | [_], _ => rfl
  have g_has_bit : GDef K mg "has_bit" (tp 5) ["some", "bit"] := G_has_bit.mk X G fun _ _ _ _ _ _ us hl => match us, hl with | [_, _], _ => rfl
  have g_many_bits : GDef K mg "many_bits" (tp 6) ["some"] := G_many_bits.mk X G fun _ _ _ _ _ _ us hl => match us, hl with | [_], _ => rfl
  have g_is_odd : GDef K mg "is_odd" (tp 7) ["word", "some"] := G_is_odd.mk X G fun _ _ _ _ _ _ us hl => match us, hl with | [_, _], _ => rfl
  have g_turned : GDef K mg "turned" (tp 8) ["word", "bit"] := G_turned.mk X G fun _ _ _ _ _ _ us hl => match us, hl with | [_, _], _ => rfl
  have g_answer_for : GDef K mg "answer_for" (tp 11) ["many", "words"] := G_answer_for.mk X G fun _ _ _ _ _ _ us hl => match us, hl with | [_, _], _ => rfl
  have g_want : GDef K mg "want" (tp 20) ["is_so", "refusal"] := G_want.mk X G fun _ _ _ _ _ _ us hl => match us, hl with | [_, _], _ => rfl
  have g_of_answers : GDef K mg "of_answers" (tp 25) ["desk", "call", "n", "row"] := G_of_answers.mk X G fun _ _ _ _ _ _ us hl => match us, hl with | [_, _, _, _], _ => rfl
  have g_of_sways : GDef K mg "of_sways" (tp 26) ["desk", "call", "n"] := G_of_sways.mk X G fun _ _ _ _ _ _ us hl => match us, hl with | [_, _, _], _ => rfl
  have g_of_sides : GDef K mg "of_sides" (tp 27) ["desk", "call"] := G_of_sides.mk X G fun _ _ _ _ _ _ us hl => match us, hl with | [_, _], _ => rfl
  have g_told : GDef K mg "told" (tp 28) ["desk", "call", "n", "row"] := G_told.mk X G fun _ _ _ _ _ _ us hl => match us, hl with | [_, _, _, _], _ => rfl
  have g_answered : GDef K mg "answered" (tp 29) ["desk", "call", "n", "row"] := G_answered.mk X G fun _ _ _ _ _ _ us hl => match us, hl with | [_, _, _, _], _ => rfl
  have a_size : MDef K CA "size" "Answer.size" (sA 1) ["self"] := A_size.mk fun _ _ _ _ _ _ us hl => match us, hl with | [_], _ => rfl
  have a_words : MDef K CA "words" "Answer.words" (sA 2) ["self"] := A_words.mk fun _ _ _ _ _ _ us hl => match us, hl with | [_], _ => rfl
  have a_many_yes : MDef K CA "many_yes" "Answer.many_yes" (sA 3) ["self"] := A_many_yes.mk fun _ _ _ _ _ _ us hl => match us, hl with | [_], _ => rfl
  have a_is_swayed : MDef K CA "is_swayed" "Answer.is_swayed" (sA 4) ["self", "word", "bit"] := A_is_swayed.mk fun _ _ _ _ _ _ us hl => match us, hl with | [_, _, _], _ => rfl
  have a_many_swayed : MDef K CA "many_swayed" "Answer.many_swayed" (sA 5) ["self", "bit"] := A_many_swayed.mk fun _ _ _ _ _ _ us hl => match us, hl with | [_, _], _ => rfl
  have a_all_swayed : MDef K CA "all_swayed" "Answer.all_swayed" (sA 6) ["self"] := A_all_swayed.mk fun _ _ _ _ _ _ us hl => match us, hl with | [_], _ => rfl
  have a_sides : MDef K CA "sides" "Answer.sides" (sA 7) ["self"] := A_sides.mk fun _ _ _ _ _ _ us hl => match us, hl with | [_], _ => rfl
  have a_sum_for : MDef K CA "sum_for" "Answer.sum_for" (sA 8) ["self", "some"] := A_sum_for.mk fun _ _ _ _ _ _ us hl => match us, hl with | [_, _], _ => rfl
  have a_sums : MDef K CA "sums" "Answer.sums" (sA 9) ["self"] := A_sums.mk fun _ _ _ _ _ _ us hl => match us, hl with | [_], _ => rfl
  have a_part : MDef K CA "part" "Answer.part" (sA 10) ["self", "some"] := A_part.mk fun _ _ _ _ _ _ us hl => match us, hl with | [_, _], _ => rfl
  have a_level : MDef K CA "level" "Answer.level" (sA 11) ["self", "k"] := A_level.mk fun _ _ _ _ _ _ us hl => match us, hl with | [_, _], _ => rfl
  have a_is_rising : MDef K CA "is_rising" "Answer.is_rising" (sA 12) ["self"] := A_is_rising.mk fun _ _ _ _ _ _ us hl => match us, hl with | [_], _ => rfl
  have d_answer : MDef K CD "answer" "Desk.answer" (sD 1) ["self"] := D_answer.mk fun _ _ _ _ _ _ us hl => match us, hl with | [_], _ => rfl
  have d_begin : MDef K CD "begin" "Desk.begin" (sD 2) ["self", "n"] := D_begin.mk fun _ _ _ _ _ _ us hl => match us, hl with | [_, _], _ => rfl
  have d_put : MDef K CD "put" "Desk.put" (sD 3) ["self", "words"] := D_put.mk fun _ _ _ _ _ _ us hl => match us, hl with | [_, _], _ => rfl
  have d_is_word : MDef K CD "is_word" "Desk.is_word" (sD 4) ["self", "number"] := D_is_word.mk fun _ _ _ _ _ _ us hl => match us, hl with | [_, _], _ => rfl
  have d_want_bit : MDef K CD "want_bit" "Desk.want_bit" (sD 5) ["self", "i"] := D_want_bit.mk fun _ _ _ _ _ _ us hl => match us, hl with | [_, _], _ => rfl
  have d_all_words : MDef K CD "all_words" "Desk.all_words" (sD 6) ["self"] := D_all_words.mk fun _ _ _ _ _ _ us hl => match us, hl with | [_], _ => rfl
  have d_told : MDef K CD "told" "Desk.told" (sD 7) ["self", "words"] := D_told.mk fun _ _ _ _ _ _ us hl => match us, hl with | [_, _], _ => rfl
  have d_weight : MDef K CD "weight" "Desk.weight" (sD 8) ["self", "word", "numbers"] := D_weight.mk fun _ _ _ _ _ _ us hl => match us, hl with | [_, _, _], _ => rfl
  have d_least : MDef K CD "least" "Desk.least" (sD 9) ["self", "q", "numbers"] := D_least.mk fun _ _ _ _ _ _ us hl => match us, hl with | [_, _, _], _ => rfl
  have d_odd : MDef K CD "odd" "Desk.odd" (sD 10) ["self", "s"] := D_odd.mk fun _ _ _ _ _ _ us hl => match us, hl with | [_, _], _ => rfl
  have d_bit : MDef K CD "bit" "Desk.bit" (sD 11) ["self", "i"] := D_bit.mk fun _ _ _ _ _ _ us hl => match us, hl with | [_, _], _ => rfl
  have d_turn_about : MDef K CD "turn_about" "Desk.turn_about" (sD 12) ["self"] := D_turn_about.mk fun _ _ _ _ _ _ us hl => match us, hl with | [_], _ => rfl
  have d_turn : MDef K CD "turn" "Desk.turn" (sD 13) ["self", "i"] := D_turn.mk fun _ _ _ _ _ _ us hl => match us, hl with | [_, _], _ => rfl
  have d_set_word : MDef K CD "set_word" "Desk.set_word" (sD 14) ["self", "x", "b"] := D_set_word.mk fun _ _ _ _ _ _ us hl => match us, hl with | [_, _, _], _ => rfl
  have d_ask : MDef K CD "ask" "Desk.ask" (sD 15) ["self", "x"] := D_ask.mk fun _ _ _ _ _ _ us hl => match us, hl with | [_, _], _ => rfl
  have d_mean : MDef K CD "mean" "Desk.mean" (sD 16) ["self"] := D_mean.mk fun _ _ _ _ _ _ us hl => match us, hl with | [_], _ => rfl
  have d_sway : MDef K CD "sway" "Desk.sway" (sD 17) ["self", "i"] := D_sway.mk fun _ _ _ _ _ _ us hl => match us, hl with | [_, _], _ => rfl
  have d_all_sways : MDef K CD "all_sways" "Desk.all_sways" (sD 18) ["self"] := D_all_sways.mk fun _ _ _ _ _ _ us hl => match us, hl with | [_], _ => rfl
  have d_even : MDef K CD "even" "Desk.even" (sD 19) ["self"] := D_even.mk fun _ _ _ _ _ _ us hl => match us, hl with | [_], _ => rfl
  have d_part : MDef K CD "part" "Desk.part" (sD 20) ["self", "s"] := D_part.mk fun _ _ _ _ _ _ us hl => match us, hl with | [_, _], _ => rfl
  have d_parts : MDef K CD "parts" "Desk.parts" (sD 21) ["self"] := D_parts.mk fun _ _ _ _ _ _ us hl => match us, hl with | [_], _ => rfl
  have d_levels : MDef K CD "levels" "Desk.levels" (sD 22) ["self"] := D_levels.mk fun _ _ _ _ _ _ us hl => match us, hl with | [_], _ => rfl
  have d_sides : MDef K CD "sides" "Desk.sides" (sD 23) ["self"] := D_sides.mk fun _ _ _ _ _ _ us hl => match us, hl with | [_], _ => rfl
  have d_fewest : MDef K CD "fewest" "Desk.fewest" (sD 24) ["self"] := D_fewest.mk fun _ _ _ _ _ _ us hl => match us, hl with | [_], _ => rfl
  have d_rising : MDef K CD "rising" "Desk.rising" (sD 25) ["self"] := D_rising.mk fun _ _ _ _ _ _ us hl => match us, hl with | [_], _ => rfl
  have d_idle : MDef K CD "idle" "Desk.idle" (sD 26) ["self"] := D_idle.mk fun _ _ _ _ _ _ us hl => match us, hl with | [_], _ => rfl
  have d_most : MDef K CD "most" "Desk.most" (sD 27) ["self"] := D_most.mk fun _ _ _ _ _ _ us hl => match us, hl with | [_], _ => rfl
  have d_state : MDef K CD "state" "Desk.state" (sD 28) ["self"] := D_state.mk fun _ _ _ _ _ _ us hl => match us, hl with | [_], _ => rfl
  refine ⟨PySem.W.fnOf "answers" "answers" (defArgs (tp 30)) (defBody (tp 30)) (defScope (tp 30)) .none kV dc pm an cd ct, fun s us hu => match us, hu with | [_], _ => .of_eq rfl, fun base _ _ => ?_⟩
  have q_div := ok_div (P := P) (w := w) (base := base) g_divisor_of
  have q_fr := ok_fr g_fraction T q_div
  have q_mw := ok_mw (P := P) (w := w) (base := base) g_many_words
  have q_hb := ok_hb (P := P) (w := w) (base := base) g_has_bit
  have q_mb := ok_mb (P := P) (w := w) (base := base) g_many_bits
  have q_od := ok_od g_is_odd q_mb
  have q_tu := ok_tu (P := P) (w := w) (base := base) g_turned
  have q_sz := ok_sz a_size T q_mw
  have q_ws := ok_ws (P := P) (w := w) (base := base) a_words T
  have q_my := ok_my a_many_yes T q_ws
  have q_is := ok_is a_is_swayed T q_tu
  have q_ms := ok_ms a_many_swayed T q_sz q_is
  have q_as := ok_as a_all_swayed T q_ms
  have q_si := ok_si a_sides T q_as
  have q_sf := ok_sf a_sum_for T q_od q_sz
  have q_ss := ok_ss a_sums T q_sf q_sz
  have q_pa := ok_pa a_part T q_sf q_sz q_fr
  have q_le := ok_le a_level T q_ss q_sz q_fr q_mb
  have q_ri := ok_ri a_is_rising T q_ws q_hb q_tu
  have K_A : KOk P w K mg base CX0 1 "Answer" CA ["self", "many", "says"] (spAI CA) := ⟨fA, _, ⟨mkCA, aA, iA, kpCA⟩, PySem.W.mg_of X G aCA, bA, ok_ai FA T⟩
  have K_D : KOk P w K mg base CX0 1 "Desk" CD ["self"] (spDI CD) := ⟨fD, _, ⟨mkCD, aD, iD, kpCD⟩, PySem.W.mg_of X G aCD, bD, ok_di FD T⟩
  have q_af := ok_af g_answer_for T q_mw K_A
  have q_wa := ok_wa (P := P) (w := w) (base := base) g_want T aX tI FX bX
  have q_an := ok_an d_answer T q_wa
  have q_iw := ok_iw d_is_word T q_an q_sz
  have q_wb := ok_wb d_want_bit T q_an q_wa
  have q_aw := ok_aw d_all_words T q_an q_sz
  have q_pu := ok_pu d_put T q_af q_my
  have q_be := ok_be d_begin T q_af q_wa
  have q_to := ok_to d_told T q_wa q_iw q_pu
  have q_wt := ok_wt d_weight T q_hb
  have q_ls := ok_ls d_least T q_wa q_an q_pu q_aw q_wt
  have q_oo := ok_oo d_odd T q_wa q_iw q_pu q_aw q_od
  have q_bi := ok_bi d_bit T q_wb q_pu q_aw q_hb
  have q_ta := ok_ta (CR := CR) d_turn_about T q_pu q_aw
  have q_tn := ok_tn d_turn T q_wb q_pu q_aw q_tu
  have q_se := ok_se d_set_word T q_wa q_iw K_A q_my
  have q_ak := ok_ak d_ask T q_wa q_iw
  have q_me := ok_me d_mean T q_an q_sz q_my q_fr
  have q_sw := ok_sw d_sway T q_wb q_sz q_ms q_fr
  have q_al := ok_al d_all_sways T q_an q_sz q_as q_fr
  have q_ev := ok_ev d_even T q_an q_sz q_my q_fr
  have q_pp := ok_pp d_part T q_wa q_iw q_pa
  have q_ps := ok_ps d_parts T q_an q_ss q_pa
  have q_lv := ok_lv d_levels T q_an q_le
  have q_sd := ok_sd d_sides T q_an q_si
  have q_fe := ok_fe d_fewest T q_an q_si q_my q_af
  have q_rs := ok_rs d_rising T q_an q_ri
  have q_id := ok_id d_idle T q_an q_as
  have q_mo := ok_mo d_most T q_an q_as q_sz q_fr
  have q_st := ok_st d_state T q_an q_ws
  have q_oa := ok_oa g_of_answers T q_to q_ls q_oo q_bi q_ta q_tn q_se q_ak
  have q_os := ok_os g_of_sways T q_me q_sw q_al q_ev q_pp q_ps q_lv
  have q_o2 := ok_od2 g_of_sides T q_sd q_fe q_rs q_id q_mo q_st
  have q_td := ok_td g_told T q_be q_an q_oa q_os q_o2
  have q_ad := ok_ad g_answered T q_td
  exact ok_aa F0 T U K_D q_ad
end Bw
open PySem PySem.W PyProof.Rows
set_option maxRecDepth 100000 in
set_option maxHeartbeats 8000000 in
theorem PySem.Challenge.cw_bitsways_s01_answers_holds : PySem.Challenge.rw_bitsways_s01_answers.Holds := by
  w_on; k_headS; (case hw => exact ⟨[.list [.int 5]], by decide +kernel, by decide +kernel⟩)
  k_fillS
  refine L2.walk_specK (r := PySem.Challenge.rw_bitsways_s01_answers) (k := 10) (CX := L2.CX0) (ps := ["calls"]) (sp := Bw.spAns) (by decide +kernel) rfl rfl ⟨rfl, by decide, by decide⟩ (fun w h Y => PySem.W.kIn_of Y) ?F ?S (fun _ _ _ _ z => z)
  case F =>
    intro w mg fa h Y KX G hmg
    refine' Bw.all_mk KX G hmg ?aCA ?aCD ?aCR ?pgCA ?hdCA ?poCA ?saCA ?mkCA ?kpCA ?pgCD ?hdCD ?poCD ?saCD ?mkCD ?kpCD ?nM ?nS ?nO ?xR ?saR ?gaR ?ggR ?nR ?kR ?eR ?tR ?hR ?iR ?sR ?vV ?ICA ?ICD ?ICR ?tI ?fIR ?z_len ?z_sum ?z_all ?z_abs ?z_max ?z_range ?z_enum ?z_list ?z_int ?z_ve ?c_kNB ?c_kNG ?c_kNR ?c_kMB ?c_kMT ?c_kGN ?gaN ?laN ?gaW ?laW ?s_aN ?s_aW ?v_aN ?v_aW ?G_divisor_of ?G_fraction ?G_many_words ?G_has_bit ?G_many_bits ?G_is_odd ?G_turned ?G_answer_for ?G_want ?G_of_answers ?G_of_sways ?G_of_sides ?G_told ?G_answered ?A_size ?A_words ?A_many_yes ?A_is_swayed ?A_many_swayed ?A_all_swayed ?A_sides ?A_sum_for ?A_sums ?A_part ?A_level ?A_is_rising ?D_answer ?D_begin ?D_put ?D_is_word ?D_want_bit ?D_all_words ?D_told ?D_weight ?D_least ?D_odd ?D_bit ?D_turn_about ?D_turn ?D_set_word ?D_ask ?D_mean ?D_sway ?D_all_sways ?D_even ?D_part ?D_parts ?D_levels ?D_sides ?D_fewest ?D_rising ?D_idle ?D_most ?D_state ?R_ans
    (case aCA => k_is)
    (case aCD => k_is)
    (case aCR => k_is)
    (case pgCA => k_is)
    (case hdCA => k_is)
    (case poCA => k_is)
    (case saCA => k_is)
    (case mkCA => k_is)
    (case kpCA => k_is)
    (case pgCD => k_is)
    (case hdCD => k_is)
    (case poCD => k_is)
    (case saCD => k_is)
    (case mkCD => k_is)
    (case kpCD => k_is)
    (case nM => k_is)
    (case nS => k_is)
    (case nO => k_is)
    (case xR => k_is)
    (case saR => k_is)
    (case gaR => k_is)
    (case ggR => k_is)
    (case nR => k_is)
    (case kR => k_is)
    (case eR => k_is)
    (case tR => k_is)
    (case hR => k_is)
    (case iR => k_is)
    (case sR => first | rfl | k_is)
    (case vV => first | rfl | k_is | decide +kernel)
    (case ICA => (refine' Bw.MRaw.of ?a ?i ?l ?c ?k; (case a => k_is); (case i => k_is); (case l => k_is); (case c => k_is); (case k => k_is)))
    (case ICD => (refine' Bw.MRaw.of ?a ?i ?l ?c ?k; (case a => k_is); (case i => k_is); (case l => k_is); (case c => k_is); (case k => k_is)))
    (case ICR => (refine' Bw.MRaw.of ?a ?i ?l ?c ?k; (case a => k_is); (case i => k_is); (case l => k_is); (case c => k_is); (case k => k_is)))
    (case fIR => k_is)
    (case tI => k_is)
    (case z_len => k_is)
    (case z_sum => k_is)
    (case z_all => k_is)
    (case z_abs => k_is)
    (case z_max => k_is)
    (case z_range => k_is)
    (case z_enum => k_is)
    (case z_list => k_is)
    (case z_int => k_is)
    (case z_ve => k_is)
    (case c_kNB => k_is)
    (case c_kNG => k_is)
    (case c_kNR => k_is)
    (case c_kMB => k_is)
    (case c_kMT => k_is)
    (case c_kGN => k_is)
    (case gaN => k_is)
    (case laN => k_is)
    (case gaW => k_is)
    (case laW => k_is)
    (case s_aN => decide)
    (case s_aW => decide)
    (case v_aN => exact Bw.vals_nat _ _ (by decide))
    (case v_aW => exact Bw.vals_nat _ _ (by decide))
    (case G_divisor_of => (refine' Bw.GRaw.of ?a ?l ?c ?k; (case a => k_is); (case l => k_is); (case c => k_is); (case k => k_is)))
    (case G_fraction => (refine' Bw.GRaw.of ?a ?l ?c ?k; (case a => k_is); (case l => k_is); (case c => k_is); (case k => k_is)))
    (case G_many_words => (refine' Bw.GRaw.of ?a ?l ?c ?k; (case a => k_is); (case l => k_is); (case c => k_is); (case k => k_is)))
    (case G_has_bit => (refine' Bw.GRaw.of ?a ?l ?c ?k; (case a => k_is); (case l => k_is); (case c => k_is); (case k => k_is)))
    (case G_many_bits => (refine' Bw.GRaw.of ?a ?l ?c ?k; (case a => k_is); (case l => k_is); (case c => k_is); (case k => k_is)))
    (case G_is_odd => (refine' Bw.GRaw.of ?a ?l ?c ?k; (case a => k_is); (case l => k_is); (case c => k_is); (case k => k_is)))
    (case G_turned => (refine' Bw.GRaw.of ?a ?l ?c ?k; (case a => k_is); (case l => k_is); (case c => k_is); (case k => k_is)))
    (case G_answer_for => (refine' Bw.GRaw.of ?a ?l ?c ?k; (case a => k_is); (case l => k_is); (case c => k_is); (case k => k_is)))
    (case G_want => (refine' Bw.GRaw.of ?a ?l ?c ?k; (case a => k_is); (case l => k_is); (case c => k_is); (case k => k_is)))
    (case G_of_answers => (refine' Bw.GRaw.of ?a ?l ?c ?k; (case a => k_is); (case l => k_is); (case c => k_is); (case k => k_is)))
    (case G_of_sways => (refine' Bw.GRaw.of ?a ?l ?c ?k; (case a => k_is); (case l => k_is); (case c => k_is); (case k => k_is)))
    (case G_of_sides => (refine' Bw.GRaw.of ?a ?l ?c ?k; (case a => k_is); (case l => k_is); (case c => k_is); (case k => k_is)))
    (case G_told => (refine' Bw.GRaw.of ?a ?l ?c ?k; (case a => k_is); (case l => k_is); (case c => k_is); (case k => k_is)))
    (case G_answered => (refine' Bw.GRaw.of ?a ?l ?c ?k; (case a => k_is); (case l => k_is); (case c => k_is); (case k => k_is)))
    (case A_size => (refine' Bw.MRaw.of ?a ?i ?l ?c ?k; (case a => k_is); (case i => k_is); (case l => k_is); (case c => k_is); (case k => k_is)))
    (case A_words => (refine' Bw.MRaw.of ?a ?i ?l ?c ?k; (case a => k_is); (case i => k_is); (case l => k_is); (case c => k_is); (case k => k_is)))
    (case A_many_yes => (refine' Bw.MRaw.of ?a ?i ?l ?c ?k; (case a => k_is); (case i => k_is); (case l => k_is); (case c => k_is); (case k => k_is)))
    (case A_is_swayed => (refine' Bw.MRaw.of ?a ?i ?l ?c ?k; (case a => k_is); (case i => k_is); (case l => k_is); (case c => k_is); (case k => k_is)))
    (case A_many_swayed => (refine' Bw.MRaw.of ?a ?i ?l ?c ?k; (case a => k_is); (case i => k_is); (case l => k_is); (case c => k_is); (case k => k_is)))
    (case A_all_swayed => (refine' Bw.MRaw.of ?a ?i ?l ?c ?k; (case a => k_is); (case i => k_is); (case l => k_is); (case c => k_is); (case k => k_is)))
    (case A_sides => (refine' Bw.MRaw.of ?a ?i ?l ?c ?k; (case a => k_is); (case i => k_is); (case l => k_is); (case c => k_is); (case k => k_is)))
    (case A_sum_for => (refine' Bw.MRaw.of ?a ?i ?l ?c ?k; (case a => k_is); (case i => k_is); (case l => k_is); (case c => k_is); (case k => k_is)))
    (case A_sums => (refine' Bw.MRaw.of ?a ?i ?l ?c ?k; (case a => k_is); (case i => k_is); (case l => k_is); (case c => k_is); (case k => k_is)))
    (case A_part => (refine' Bw.MRaw.of ?a ?i ?l ?c ?k; (case a => k_is); (case i => k_is); (case l => k_is); (case c => k_is); (case k => k_is)))
    (case A_level => (refine' Bw.MRaw.of ?a ?i ?l ?c ?k; (case a => k_is); (case i => k_is); (case l => k_is); (case c => k_is); (case k => k_is)))
    (case A_is_rising => (refine' Bw.MRaw.of ?a ?i ?l ?c ?k; (case a => k_is); (case i => k_is); (case l => k_is); (case c => k_is); (case k => k_is)))
    (case D_answer => (refine' Bw.MRaw.of ?a ?i ?l ?c ?k; (case a => k_is); (case i => k_is); (case l => k_is); (case c => k_is); (case k => k_is)))
    (case D_begin => (refine' Bw.MRaw.of ?a ?i ?l ?c ?k; (case a => k_is); (case i => k_is); (case l => k_is); (case c => k_is); (case k => k_is)))
    (case D_put => (refine' Bw.MRaw.of ?a ?i ?l ?c ?k; (case a => k_is); (case i => k_is); (case l => k_is); (case c => k_is); (case k => k_is)))
    (case D_is_word => (refine' Bw.MRaw.of ?a ?i ?l ?c ?k; (case a => k_is); (case i => k_is); (case l => k_is); (case c => k_is); (case k => k_is)))
    (case D_want_bit => (refine' Bw.MRaw.of ?a ?i ?l ?c ?k; (case a => k_is); (case i => k_is); (case l => k_is); (case c => k_is); (case k => k_is)))
    (case D_all_words => (refine' Bw.MRaw.of ?a ?i ?l ?c ?k; (case a => k_is); (case i => k_is); (case l => k_is); (case c => k_is); (case k => k_is)))
    (case D_told => (refine' Bw.MRaw.of ?a ?i ?l ?c ?k; (case a => k_is); (case i => k_is); (case l => k_is); (case c => k_is); (case k => k_is)))
    (case D_weight => (refine' Bw.MRaw.of ?a ?i ?l ?c ?k; (case a => k_is); (case i => k_is); (case l => k_is); (case c => k_is); (case k => k_is)))
    (case D_least => (refine' Bw.MRaw.of ?a ?i ?l ?c ?k; (case a => k_is); (case i => k_is); (case l => k_is); (case c => k_is); (case k => k_is)))
    (case D_odd => (refine' Bw.MRaw.of ?a ?i ?l ?c ?k; (case a => k_is); (case i => k_is); (case l => k_is); (case c => k_is); (case k => k_is)))
    (case D_bit => (refine' Bw.MRaw.of ?a ?i ?l ?c ?k; (case a => k_is); (case i => k_is); (case l => k_is); (case c => k_is); (case k => k_is)))
    (case D_turn_about => (refine' Bw.MRaw.of ?a ?i ?l ?c ?k; (case a => k_is); (case i => k_is); (case l => k_is); (case c => k_is); (case k => k_is)))
    (case D_turn => (refine' Bw.MRaw.of ?a ?i ?l ?c ?k; (case a => k_is); (case i => k_is); (case l => k_is); (case c => k_is); (case k => k_is)))
    (case D_set_word => (refine' Bw.MRaw.of ?a ?i ?l ?c ?k; (case a => k_is); (case i => k_is); (case l => k_is); (case c => k_is); (case k => k_is)))
    (case D_ask => (refine' Bw.MRaw.of ?a ?i ?l ?c ?k; (case a => k_is); (case i => k_is); (case l => k_is); (case c => k_is); (case k => k_is)))
    (case D_mean => (refine' Bw.MRaw.of ?a ?i ?l ?c ?k; (case a => k_is); (case i => k_is); (case l => k_is); (case c => k_is); (case k => k_is)))
    (case D_sway => (refine' Bw.MRaw.of ?a ?i ?l ?c ?k; (case a => k_is); (case i => k_is); (case l => k_is); (case c => k_is); (case k => k_is)))
    (case D_all_sways => (refine' Bw.MRaw.of ?a ?i ?l ?c ?k; (case a => k_is); (case i => k_is); (case l => k_is); (case c => k_is); (case k => k_is)))
    (case D_even => (refine' Bw.MRaw.of ?a ?i ?l ?c ?k; (case a => k_is); (case i => k_is); (case l => k_is); (case c => k_is); (case k => k_is)))
    (case D_part => (refine' Bw.MRaw.of ?a ?i ?l ?c ?k; (case a => k_is); (case i => k_is); (case l => k_is); (case c => k_is); (case k => k_is)))
    (case D_parts => (refine' Bw.MRaw.of ?a ?i ?l ?c ?k; (case a => k_is); (case i => k_is); (case l => k_is); (case c => k_is); (case k => k_is)))
    (case D_levels => (refine' Bw.MRaw.of ?a ?i ?l ?c ?k; (case a => k_is); (case i => k_is); (case l => k_is); (case c => k_is); (case k => k_is)))
    (case D_sides => (refine' Bw.MRaw.of ?a ?i ?l ?c ?k; (case a => k_is); (case i => k_is); (case l => k_is); (case c => k_is); (case k => k_is)))
    (case D_fewest => (refine' Bw.MRaw.of ?a ?i ?l ?c ?k; (case a => k_is); (case i => k_is); (case l => k_is); (case c => k_is); (case k => k_is)))
    (case D_rising => (refine' Bw.MRaw.of ?a ?i ?l ?c ?k; (case a => k_is); (case i => k_is); (case l => k_is); (case c => k_is); (case k => k_is)))
    (case D_idle => (refine' Bw.MRaw.of ?a ?i ?l ?c ?k; (case a => k_is); (case i => k_is); (case l => k_is); (case c => k_is); (case k => k_is)))
    (case D_most => (refine' Bw.MRaw.of ?a ?i ?l ?c ?k; (case a => k_is); (case i => k_is); (case l => k_is); (case c => k_is); (case k => k_is)))
    (case D_state => (refine' Bw.MRaw.of ?a ?i ?l ?c ?k; (case a => k_is); (case i => k_is); (case l => k_is); (case c => k_is); (case k => k_is)))
    (case R_ans => (refine' Bw.GRaw.of ?a ?l ?c ?k; (case a => k_is); (case l => k_is); (case c => k_is); (case k => k_is)))
  case S =>
    intro K H xs a hO hwi hask hx
    cases hx with
    | cons h1 h2 =>
      cases h2
      cases h1 with
      | lst hs ha =>
        have e := L2.ints_dw a.1 _ ha
        subst e
        have q : ((Codec.inLen 0 10400 a.1 && a.1.all (Codec.inInt 0 4294967295)) && true) = true := hwi
        rw [Bool.and_eq_true, Bool.and_eq_true] at q
        have hz : Bw.zs (a.1.map Int.toNat) = a.1 := by
          unfold Bw.zs
          rw [List.map_map]
          conv => rhs; rw [← List.map_id a.1]
          refine List.map_congr_left fun x hx => ?_
          have hx0 : 0 ≤ x := (Codec.inInt_iff.mp (List.all_eq_true.mp q.1.2 x hx)).1
          show ((x.toNat : Nat) : Int) = x
          omega
        have hask' : PyKrdk.answers_asked a.1 = true := hask
        refine ⟨_, a.1.map Int.toNat, rfl, ?_, ?_, ?_, fun H' p hp => ?_⟩
        · rw [Bw.nV_int]
          show L2.SqL K H _ ((Bw.zs (a.1.map Int.toNat)).map L2.V.int)
          rw [hz]
          exact hs
        · rw [List.length_map]
          have z := (Codec.inNat_iff.mp q.1.1).2
          omega
        · rw [hz]
          exact hask'
        · rw [hz] at hp
          exact .lst (L2.SqL.of hp) (L2.dw_ints _)
#print axioms PySem.Challenge.cw_bitsways_s01_answers_holds
