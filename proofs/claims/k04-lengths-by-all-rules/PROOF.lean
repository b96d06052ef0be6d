import PyProof.Rows.All
import Wide.All
import OpenK.AllK
import Wide.FinOn
import HandS.ForMost
import HandS.Evl
import HandS.Style
import HandS.IsInst
import HandS.Steps
import HandS.Text
import HandS.ForExc
import HandS.Walk
import HandS.ExcIs
import PySem.Challenge.RW_rulefound_k04_lengths_by_all_rules
set_option Elab.async false
set_option linter.all false
set_option maxRecDepth 100000
set_option maxHeartbeats 4000000

namespace RF
/-! ### plain mathematics: lists of ints, rows, rules -/
/-- a list's place -/
def gi (ns : List Int) (i : Int) : Int := ns.getD i.toNat 0
/-- numbers by p -/
def Nums (p : Int) (ns : List Int) : Prop := ∀ x ∈ ns, 0 ≤ x ∧ x < p
theorem gi_nat (ns : List Int) (i : Nat) : gi ns (i : Int) = ns.getD i 0 := by unfold gi; rw [Int.toNat_natCast]
theorem gi_mem {ns : List Int} {i : Int} (h0 : 0 ≤ i) (h1 : i < ns.length) : gi ns i ∈ ns := by
  have h : i.toNat < ns.length := by omega
  unfold gi
  rw [List.getD_eq_getElem?_getD, List.getElem?_eq_getElem h]
  exact List.getElem_mem h
theorem gi_nums {p : Int} {ns : List Int} {i : Int} (hn : Nums p ns) (h0 : 0 ≤ i) (h1 : i < ns.length) : 0 ≤ gi ns i ∧ gi ns i < p := hn _ (gi_mem h0 h1)
/-- the partial sums of a mixture -/
def dotN (row rule : List Int) : Nat → Int
  | 0 => 0
  | k + 1 => dotN row rule k + gi rule (k : Int) * gi row ((row.length : Int) - 1 - (k : Int))
def nextOf (p : Int) (row rule : List Int) : Int := dotN row rule rule.length % p
theorem sum_range (f : Nat → Int) (g : Nat → Int) (h0 : g 0 = 0) (hs : ∀ k, g (k + 1) = g k + f k) : ∀ n, ((List.range n).map f).sum = g n
  | 0 => by simp [h0]
  | n + 1 => by
    rw [List.range_succ, List.map_append, List.sum_append, sum_range f g h0 hs n, hs]
    simp
/-- whether a row goes by a rule -/
def goesB (p : Int) (row rule : List Int) : Bool := (List.range (row.length - rule.length)).all fun i => decide (gi row ((rule.length : Int) + (i : Int)) = nextOf p (row.take (rule.length + i)) rule)
def areNums (p : Int) (sm : List Int) : Bool := decide ((sm.length : Int) ≤ 30) && (sm.map fun x => decide (0 ≤ x) && decide (x < p)).all id
theorem areNums_of {p : Int} {ns : List Int} (h : ns.length ≤ 30) (hn : Nums p ns) : areNums p ns = true := by
  unfold areNums
  rw [Bool.and_eq_true]
  refine ⟨decide_eq_true (by omega), ?_⟩
  rw [List.all_eq_true]
  intro b hb
  rw [List.mem_map] at hb
  obtain ⟨x, hx, rfl⟩ := hb
  have := hn x hx
  simp [this.1, this.2]
def isPrime (p : Int) : Bool := if (decide (2 ≤ p) && decide (p ≤ 97)) = true then ((((List.range (p - 2).toNat).filter fun (i : Nat) => decide (((2 : Int) + (i : Int)) * (2 + (i : Int)) ≤ p)).map fun (i : Nat) => !decide (p % (2 + (i : Int)) = 0))).all id else false
def primes : List Int := [2, 3, 5, 7, 11, 13, 17, 19, 23, 29, 31, 37, 41, 43, 47, 53, 59, 61, 67, 71, 73, 79, 83, 89, 97]
theorem primes_prime : ∀ p ∈ primes, isPrime p = true := by decide +kernel
theorem primes_le : ∀ p ∈ primes, 2 ≤ p ∧ p ≤ 97 := by decide +kernel
/-! ### the laws' own numbers -/
def cellAt (script : List Int) (k : Int) : Int := if k < script.length then gi script k else 0
def lawNext (seed : Int) : Int := (((seed + 7919) % 2147483647) * ((seed + 7919) % 2147483647) + 48271 * ((seed + 7919) % 2147483647) + 12345) % 2147483629
def lawPrime (cell : Int) : Int := if cell % 3 > 0 then gi primes (cell / 3 % 4) else gi primes (cell / 3 % 25)
theorem lawPrime_mem (cell : Int) : lawPrime cell ∈ primes := by
  unfold lawPrime
  split
  · exact gi_mem (by omega) (by show _ < ((25 : Nat) : Int); omega)
  · exact gi_mem (by omega) (by show _ < ((25 : Nat) : Int); omega)
/-- the cells and the numbers told -/
def numCell (cell : Int) : Nat → Int
  | 0 => cell
  | k + 1 => lawNext (numCell cell k % 1000003 + 17 * (k : Int))
def lawNumsN (p cell : Int) (n : Nat) : List Int := (List.range n).map fun k => numCell cell (k + 1) / 7 % p
theorem lawNumsN_succ (p cell : Int) (n : Nat) : lawNumsN p cell (n + 1) = lawNumsN p cell n ++ [numCell cell (n + 1) / 7 % p] := by
  unfold lawNumsN
  rw [List.range_succ, List.map_append] <;> rfl
def lawNums (p many cell : Int) : List Int := lawNumsN p cell many.toNat
theorem lawNums_len (p many cell : Int) : (lawNums p many cell).length = many.toNat := by
  unfold lawNums lawNumsN
  rw [List.length_map, List.length_range]
theorem lawNums_nums {p : Int} (hp : 0 < p) (many cell : Int) : Nums p (lawNums p many cell) := by
  intro x hx
  unfold lawNums lawNumsN at hx
  rw [List.mem_map] at hx
  obtain ⟨k, _, rfl⟩ := hx
  exact ⟨Int.emod_nonneg _ (by omega), Int.emod_lt_of_pos _ hp⟩
/-- a row gone on with -/
def onBy (p : Int) (rule : List Int) (row : List Int) : Nat → List Int
  | 0 => row
  | k + 1 => onBy p rule row k ++ [nextOf p (onBy p rule row k) rule]
theorem onBy_len (p : Int) (rule row : List Int) : ∀ k, (onBy p rule row k).length = row.length + k
  | 0 => rfl
  | k + 1 => by
    show (onBy p rule row k ++ [_]).length = _
    rw [List.length_append, onBy_len p rule row k] <;> rfl
theorem nextOf_bounds {p : Int} (hp : 0 < p) (row rule : List Int) : 0 ≤ nextOf p row rule ∧ nextOf p row rule < p := ⟨Int.emod_nonneg _ (by omega), Int.emod_lt_of_pos _ hp⟩
theorem onBy_nums {p : Int} (hp : 0 < p) {rule row : List Int} (h : Nums p row) : ∀ k, Nums p (onBy p rule row k)
  | 0 => h
  | k + 1 => by
    intro x hx
    have hx : x ∈ onBy p rule row k ++ [nextOf p (onBy p rule row k) rule] := hx
    rw [List.mem_append] at hx
    rcases hx with hx | hx
    · exact onBy_nums hp h k x hx
    · rw [List.mem_singleton] at hx
      rw [hx]
      exact nextOf_bounds hp _ _
theorem Nums.take {p : Int} {ns : List Int} (h : Nums p ns) (n : Nat) : Nums p (ns.take n) := fun x hx => h x (List.mem_of_mem_take hx)
theorem Nums.drop {p : Int} {ns : List Int} (h : Nums p ns) (n : Nat) : Nums p (ns.drop n) := fun x hx => h x (List.mem_of_mem_drop hx)
theorem Nums.append {p : Int} {ns ms : List Int} (h : Nums p ns) (h2 : Nums p ms) : Nums p (ns ++ ms) := fun x hx => (List.mem_append.mp hx).elim (h x) (h2 x)
theorem Nums.nil {p : Int} : Nums p [] := fun x hx => by simp at hx
theorem Nums.one {p x : Int} (h0 : 0 ≤ x) (h1 : x < p) : Nums p [x] := fun y hy => by
  rw [List.mem_singleton] at hy
  subst hy
  exact ⟨h0, h1⟩
end RF
namespace RF
theorem goesB_not {p : Int} {row rule : List Int} {i : Nat} (hi : i < row.length - rule.length) (h : ¬ gi row ((rule.length : Int) + (i : Int)) = nextOf p (row.take (rule.length + i)) rule) : goesB p row rule = false := by
  unfold goesB
  rw [List.all_eq_false]
  exact ⟨i, List.mem_range.mpr hi, by rw [decide_eq_false h]; exact Bool.false_ne_true⟩
theorem goesB_yes {p : Int} {row rule : List Int} (h : ∀ i, i < row.length - rule.length → gi row ((rule.length : Int) + (i : Int)) = nextOf p (row.take (rule.length + i)) rule) : goesB p row rule = true := by
  unfold goesB
  rw [List.all_eq_true]
  exact fun i hi => decide_eq_true (h i (List.mem_range.mp hi))
end RF
namespace RF
theorem gi_lt {ns : List Int} {i : Nat} (h : i < ns.length) : gi ns (i : Int) = ns[i] := by
  rw [gi_nat, List.getD_eq_getElem?_getD, List.getElem?_eq_getElem h]
  rfl
theorem gi_ext {ns ms : List Int} (hl : ns.length = ms.length) (h : ∀ j, j < ms.length → gi ns (j : Int) = gi ms (j : Int)) : ns = ms :=
  List.ext_getElem hl fun i h1 h2 => by
    have q := h i h2
    rw [gi_lt h1, gi_lt h2] at q
    exact q
end RF
namespace RF
/-! ### sums and tables -/
def sumN (f : Nat → Int) : Nat → Int
  | 0 => 0
  | n + 1 => sumN f n + f n
theorem sumN_congr {f g : Nat → Int} : ∀ {n : Nat}, (∀ i, i < n → f i = g i) → sumN f n = sumN g n
  | 0, _ => rfl
  | n + 1, h => by
    show sumN f n + f n = sumN g n + g n
    rw [sumN_congr fun i hi => h i (Nat.lt_succ_of_lt hi), h n (Nat.lt_succ_self n)]
theorem sumN_zero {f : Nat → Int} : ∀ {n : Nat}, (∀ i, i < n → f i = 0) → sumN f n = 0
  | 0, _ => rfl
  | n + 1, h => by
    show sumN f n + f n = 0
    rw [sumN_zero fun i hi => h i (Nat.lt_succ_of_lt hi), h n (Nat.lt_succ_self n)]
    rfl
theorem sumN_add (f g : Nat → Int) : ∀ n, sumN (fun i => f i + g i) n = sumN f n + sumN g n
  | 0 => rfl
  | n + 1 => by
    show sumN (fun i => f i + g i) n + (f n + g n) = sumN f n + f n + (sumN g n + g n)
    rw [sumN_add f g n]
    omega
theorem sumN_sub (f g : Nat → Int) : ∀ n, sumN (fun i => f i - g i) n = sumN f n - sumN g n
  | 0 => rfl
  | n + 1 => by
    show sumN (fun i => f i - g i) n + (f n - g n) = sumN f n + f n - (sumN g n + g n)
    rw [sumN_sub f g n]
    omega
theorem sumN_mul (c : Int) (f : Nat → Int) : ∀ n, sumN (fun i => c * f i) n = c * sumN f n
  | 0 => by simp [sumN]
  | n + 1 => by
    show sumN (fun i => c * f i) n + c * f n = c * (sumN f n + f n)
    rw [sumN_mul c f n, Int.mul_add]
theorem sumN_head (f : Nat → Int) : ∀ n, sumN f (n + 1) = f 0 + sumN (fun i => f (i + 1)) n
  | 0 => by simp [sumN]
  | n + 1 => by
    show sumN f (n + 1) + f (n + 1) = f 0 + (sumN (fun i => f (i + 1)) n + f (n + 1))
    rw [sumN_head f n]
    omega
theorem sumN_rev : ∀ (f : Nat → Int) (n : Nat), sumN f n = sumN (fun i => f (n - 1 - i)) n
  | _, 0 => rfl
  | f, n + 1 => by
    rw [sumN_head (fun i => f (n + 1 - 1 - i)) n]
    show sumN f n + f n = f (n + 1 - 1 - 0) + sumN (fun i => f (n + 1 - 1 - (i + 1))) n
    rw [sumN_rev f n, show n + 1 - 1 - 0 = n by omega, Int.add_comm]
    congr 1
    exact sumN_congr fun i hi => by rw [show n + 1 - 1 - (i + 1) = n - 1 - i by omega]
/-- more turns that give nothing -/
theorem sumN_more {f : Nat → Int} {n m : Nat} (h : n ≤ m) (hz : ∀ i, n ≤ i → i < m → f i = 0) : sumN f m = sumN f n := by
  induction m with
  | zero =>
    have : n = 0 := by omega
    subst this
    rfl
  | succ m ih =>
    by_cases e : n = m + 1
    · subst e
      rfl
    · show sumN f m + f m = sumN f n
      rw [hz m (by omega) (by omega), ih (by omega) fun i h1 h2 => hz i h1 (by omega)]
      omega
theorem sumN_swap (f : Nat → Nat → Int) : ∀ n m, sumN (fun i => sumN (fun j => f i j) m) n = sumN (fun j => sumN (fun i => f i j) n) m
  | 0, m => by
    show 0 = sumN (fun j => 0) m
    rw [sumN_zero fun _ _ => rfl]
  | n + 1, m => by
    show sumN (fun i => sumN (fun j => f i j) m) n + sumN (fun j => f n j) m = sumN (fun j => sumN (fun i => f i j) n + f n j) m
    rw [sumN_add, sumN_swap f n m]
def tab (n : Nat) (f : Nat → Int) : List Int := (List.range n).map f
theorem tab_len (n : Nat) (f : Nat → Int) : (tab n f).length = n := by
  unfold tab
  rw [List.length_map, List.length_range]
theorem tab_succ (n : Nat) (f : Nat → Int) : tab (n + 1) f = tab n f ++ [f n] := by
  unfold tab
  rw [List.range_succ, List.map_append] <;> rfl
theorem tab_congr {n : Nat} {f g : Nat → Int} (h : ∀ i, i < n → f i = g i) : tab n f = tab n g := by
  unfold tab
  exact List.map_congr_left fun i hi => h i (List.mem_range.mp hi)
theorem tab_at {n : Nat} {f : Nat → Int} {i : Nat} (h : i < (tab n f).length) : (tab n f)[i] = f i := by
  simp [tab]
theorem tab_gi {n : Nat} {f : Nat → Int} {i : Nat} (h : i < n) : gi (tab n f) (i : Int) = f i := by
  rw [gi_lt (by rw [tab_len]; exact h), tab_at]
theorem tab_set {n : Nat} {f : Nat → Int} (i : Nat) (y : Int) : (tab n f).set i y = tab n fun m => if m = i then y else f m := by
  refine List.ext_getElem (by rw [List.length_set, tab_len, tab_len]) fun j h1 h2 => ?_
  rw [tab_at h2, List.getElem_set]
  by_cases e : i = j
  · rw [if_pos e, if_pos e.symm]
  · rw [if_neg e, if_neg (fun z : j = i => e z.symm), tab_at]
theorem tab_eta (ns : List Int) : tab ns.length (fun i => gi ns (i : Int)) = ns := by
  refine List.ext_getElem (tab_len _ _) fun j h1 h2 => ?_
  rw [tab_at, gi_lt h2]
theorem tab_map {n : Nat} {f : Nat → Int} (g : Int → Int) : (tab n f).map g = tab n fun i => g (f i) := by
  unfold tab
  rw [List.map_map]
  rfl
theorem gi_out {ns : List Int} {i : Nat} (h : ns.length ≤ i) : gi ns (i : Int) = 0 := by
  rw [gi_nat, List.getD_eq_getElem?_getD, List.getElem?_eq_none h]
  rfl
theorem tab_nums {p : Int} {n : Nat} {f : Nat → Int} (h : ∀ i, i < n → 0 ≤ f i ∧ f i < p) : Nums p (tab n f) := by
  intro x hx
  unfold tab at hx
  rw [List.mem_map] at hx
  obtain ⟨i, hi, rfl⟩ := hx
  exact h i (List.mem_range.mp hi)
/-! ### rules joined -/
def conv (one other : List Int) (m : Nat) : Int := sumN (fun j => gi one (j : Int) * gi other ((m - 1 - j : Nat) : Int)) m
theorem conv_comm (one other : List Int) (m : Nat) : conv one other m = conv other one m := by
  unfold conv
  rw [sumN_rev]
  refine sumN_congr fun i hi => ?_
  rw [show m - 1 - (m - 1 - i) = i by omega, Int.mul_comm]
theorem conv_nil (one : List Int) (m : Nat) : conv one [] m = 0 := sumN_zero fun i _ => by
  rw [gi_out (ns := []) (Nat.zero_le _), Int.mul_zero]
def joinedL (p : Int) (one other : List Int) : List Int := tab (one.length + other.length) fun m => (gi one (m : Int) + gi other (m : Int) - conv one other m) % p
theorem joinedL_comm (p : Int) (one other : List Int) : joinedL p one other = joinedL p other one := by
  unfold joinedL
  rw [Nat.add_comm]
  exact tab_congr fun i _ => by rw [conv_comm, Int.add_comm (gi one _)]
theorem joinedL_nil {p : Int} {one : List Int} (h : Nums p one) : joinedL p one [] = one := by
  have e : joinedL p one [] = tab one.length fun m => gi one (m : Int) := tab_congr fun i hi => by
    have hi : i < one.length := hi
    have b := gi_nums h (i := (i : Int)) (by omega) (by omega)
    rw [conv_nil, gi_out (ns := []) (Nat.zero_le _)]
    rw [Int.add_zero, Int.sub_zero, Int.emod_eq_of_lt b.1 b.2]
  rw [e, tab_eta]
/-- the joining's turns -/
def jF1 (one : List Int) (n m : Nat) : Int := if m < n then gi one (m : Int) else 0
def jP (one other : List Int) (m k : Nat) : Int := if k + 1 ≤ m then gi one ((m - 1 - k : Nat) : Int) * gi other (k : Int) else 0
def jF2 (one other : List Int) (k m : Nat) : Int := gi one (m : Int) + (if m < k then gi other (m : Int) else 0) - sumN (jP one other m) k
def jF3 (one other : List Int) (k j m : Nat) : Int := gi one (m : Int) + (if m < k + 1 then gi other (m : Int) else 0) - sumN (jP one other m) k - (if k + 1 ≤ m ∧ m < k + 1 + j then gi one ((m - 1 - k : Nat) : Int) * gi other (k : Int) else 0)
theorem jF1_end (one other : List Int) (m : Nat) : jF1 one one.length m = jF2 one other 0 m := by
  unfold jF1 jF2
  rw [if_neg (Nat.not_lt_zero m)]
  show _ = gi one (m : Int) + 0 - 0
  by_cases h : m < one.length
  · rw [if_pos h]
    omega
  · rw [if_neg h, gi_out (Nat.le_of_not_lt h)]
    rfl
theorem jF3_0 (one other : List Int) (k m : Nat) : (if m = k then jF2 one other k k + gi other (k : Int) else jF2 one other k m) = jF3 one other k 0 m := by
  unfold jF2 jF3
  rw [if_neg (show ¬ (k + 1 ≤ m ∧ m < k + 1 + 0) by omega)]
  by_cases h : m = k
  · subst h
    rw [if_pos rfl, if_neg (Nat.lt_irrefl m), if_pos (Nat.lt_succ_self m)]
    omega
  · rw [if_neg h]
    by_cases h2 : m < k
    · rw [if_pos h2, if_pos (show m < k + 1 by omega)]
      omega
    · rw [if_neg h2, if_neg (show ¬ m < k + 1 by omega)]
      omega
theorem jF3_s (one other : List Int) (k j m : Nat) : (if m = j + k + 1 then jF3 one other k j (j + k + 1) - gi one (j : Int) * gi other (k : Int) else jF3 one other k j m) = jF3 one other k (j + 1) m := by
  unfold jF3
  by_cases h : m = j + k + 1
  · subst h
    rw [if_pos rfl, if_neg (show ¬ (j + k + 1 < k + 1) by omega), if_neg (show ¬ (k + 1 ≤ j + k + 1 ∧ j + k + 1 < k + 1 + j) by omega), if_pos (show (k + 1 ≤ j + k + 1 ∧ j + k + 1 < k + 1 + (j + 1)) by omega), show j + k + 1 - 1 - k = j by omega]
    omega
  · rw [if_neg h]
    by_cases h2 : k + 1 ≤ m ∧ m < k + 1 + j
    · rw [if_pos h2, if_pos (show k + 1 ≤ m ∧ m < k + 1 + (j + 1) by omega)]
    · rw [if_neg h2, if_neg (show ¬ (k + 1 ≤ m ∧ m < k + 1 + (j + 1)) by omega)]
theorem jF3_end (one other : List Int) (k m : Nat) : jF3 one other k one.length m = jF2 one other (k + 1) m := by
  unfold jF3 jF2
  show _ = _ - (sumN (jP one other m) k + jP one other m k)
  unfold jP
  by_cases h : k + 1 ≤ m ∧ m < k + 1 + one.length
  · rw [if_pos h, if_pos h.1]
    omega
  · rw [if_neg h]
    by_cases h2 : k + 1 ≤ m
    · rw [if_pos h2, gi_out (ns := one) (show one.length ≤ m - 1 - k by omega)]
      omega
    · rw [if_neg h2]
      omega
theorem jF2_end (one other : List Int) (m : Nat) : jF2 one other other.length m = gi one (m : Int) + gi other (m : Int) - conv one other m := by
  have e1 : (if m < other.length then gi other (m : Int) else 0) = gi other (m : Int) := by
    by_cases h : m < other.length
    · rw [if_pos h]
    · rw [if_neg h, gi_out (Nat.le_of_not_lt h)]
  have e2 : sumN (jP one other m) other.length = conv one other m := by
    have a1 : sumN (jP one other m) (other.length + m) = sumN (jP one other m) other.length := sumN_more (by omega) fun i h1 _ => by
      unfold jP
      rw [gi_out (ns := other) h1, Int.mul_zero]
      split <;> rfl
    have a2 : sumN (jP one other m) (other.length + m) = sumN (jP one other m) m := sumN_more (by omega) fun i h1 _ => if_neg (by omega)
    rw [← a1, a2]
    unfold conv
    rw [sumN_rev (fun j => gi one (j : Int) * gi other ((m - 1 - j : Nat) : Int))]
    refine sumN_congr fun i hi => ?_
    unfold jP
    rw [if_pos (by omega), show m - 1 - (m - 1 - i) = i by omega]
  unfold jF2
  rw [e1, e2]
end RF

namespace RF
open PySem PySem.Spec PyProof.Rows L2 Evl

/-! ### defs that stand at the top, and what they promise -/
structure DefAt (K : PySem.W.Frag) (mg : PySem.Str → Option Value) (x : PySem.Str) (st : Stmt) (ps : List PySem.Str) : Prop where
  ex : ∃ f fd, mg x = some (.ref f) ∧ Fun K x x st f fd ∧ Binds K fd ps []
structure DefOk (P : Program) (w : World) (K : PySem.W.Frag) (mg : PySem.Str → Option Value) (base : Heap) (CX : CXT) (k : Nat) (x : PySem.Str) (ps : List PySem.Str) (sp : Sp) : Prop where
  ex : ∃ f fd, mg x = some (.ref f) ∧ PySem.W.keepIn K (.ref f) = true ∧ Binds K fd ps [] ∧ FnOk P w K mg base CX k f fd ps sp
section
variable {P : Program} {w : World} {K : PySem.W.Frag} {mg : PySem.Str → Option Value} {base : Heap}
theorem DefAt.ok {x : PySem.Str} {st : Stmt} {N ps : List PySem.Str} {k : Nat} {sp : Sp} (A : DefAt K mg x st ps) (S : FnScope N ps (defScope st)) (len : ∀ vs H Q E, sp vs H Q E → vs.length = ps.length)
    (hbody : ∀ (f : Addr) (cdv : Value) (A : Around) (outer : List Env) (s : Shared) (H : Hp) (vs : List V) (Q : VK) (E : XK), Room k (A.deeper (envOfC x (defScope st) s.heap.objs.size f cdv)) → sp vs H Q E →
      ∃ t, PSs (cxOf CX0 P w K mg base N x (defScope st) f cdv A outer s H E).nox (defBody st) t ∧ t { nx := fun _ H' => Q .non H', rt := Q } (start N vs) H) : DefOk P w K mg base CX0 (k + 1) x ps sp := by
  obtain ⟨f, fd, hm, F, b⟩ := A.ex
  exact ⟨f, fd, hm, F.kp, b, F.ok S len (hbody f)⟩
theorem DefOk.mono {CX : CXT} {j k : Nat} {x : PySem.Str} {ps : List PySem.Str} {sp : Sp} (D : DefOk P w K mg base CX j x ps sp) (h : j ≤ k) : DefOk P w K mg base CX k x ps sp := by
  obtain ⟨f, fd, hm, kp, b, F⟩ := D.ex
  exact ⟨f, fd, hm, kp, b, F.mono h⟩
theorem DefOk.imp {CX : CXT} {k : Nat} {x : PySem.Str} {ps : List PySem.Str} {sp sp' : Sp} (D : DefOk P w K mg base CX k x ps sp) (h : ∀ vs H Q E, sp' vs H Q E → sp vs H Q E) : DefOk P w K mg base CX k x ps sp' := by
  obtain ⟨f, fd, hm, kp, b, F⟩ := D.ex
  exact ⟨f, fd, hm, kp, b, F.imp h⟩
end
/-- a call of such a def -/
theorem pe_cd {X : Cx} {k : Nat} {x : PySem.Str} {ps : List PySem.Str} {sp : Sp} {e : Expr} {es : List Expr} {t : TA} {p pos : Pos} (D : DefOk X.prog X.w X.K X.mg X.base CX0 k x ps sp) (hr : Room k X.A) (hg : Gl X x) (ha : PA X (e :: es) t)
    (hdb : (x == ("__debug__" : PySem.Str)) = false := by decide) (he : starEach (e :: es) X.env = (false, eval e X.env) :: starEach es X.env := by rfl) (hpl : (backTo pos (starEach es X.env)).any (·.1) = false := by rfl) :
    PE X (.Call (.Name x p) (e :: es) [] pos) (tCall sp [] E0 t) := by
  obtain ⟨f, fd, hm, kp, b, F⟩ := D.ex
  exact pe_call F hr hg hm kp b .nil pass0 ha hdb he hpl
/-- a module's int -/
theorem pe_gi {X : Cx} {x : PySem.Str} {i : Int} {pos : Pos} (hg : Gl X x) (hm : ∃ t, X.mg x = some (.int i t)) (hd : (x == ("__debug__" : PySem.Str)) = false := by decide) : PE X (.Name x pos) (tC (.int i)) := by
  obtain ⟨t, hm⟩ := hm
  exact pe_glob hg hm ⟨t, rfl⟩ hd
theorem pe_gs {X : Cx} {x : PySem.Str} {i : PySem.Str} {pos : Pos} (hg : Gl X x) (hm : ∃ t, X.mg x = some (.str i t)) (hd : (x == ("__debug__" : PySem.Str)) = false := by decide) : PE X (.Name x pos) (tC (.str i)) := by
  obtain ⟨t, hm⟩ := hm
  exact pe_glob hg hm ⟨t, rfl⟩ hd

/-! ### data -/
/-- a list of ints -/
def dl (ns : List Int) : PyData := .list (ns.map PyData.int)
theorem ex_at {H1 H : Hp} {a : Addr} {o : HO} (e : Ex H1 H) (h : H1 a = some o) : H a = some o := e a o h
section
variable {K : PySem.W.Frag} {σ : L2.St} {H H' : Hp} {ta tb tc te tx : TE} {t u : TT} {x y z v : V} {r : R2} {d : PyData}
mutual
theorem dp_ex (e : Ex H H') : ∀ (d : PyData) (v : V), Dp K H v d → Dp K H' v d
  | .none, _, h => by cases h; exact .non
  | .bool _, _, h => by cases h; exact .bl _
  | .int _, _, h => by cases h; exact .int _
  | .str _, _, h => by cases h; exact .str _
  | .list ds, _, h => by
    cases h with
    | lst a b => exact .lst (ex_l e a) (dpAll_ex e ds _ b)
  | .tuple ds, _, h => by
    cases h with
    | tup a b => exact .tup (ex_t e a) (dpAll_ex e ds _ b)
  | .dict _, _, h => by cases h
theorem dpAll_ex (e : Ex H H') : ∀ (ds : List PyData) (vs : List V), DpAll K H vs ds → DpAll K H' vs ds
  | [], _, h => by cases h; exact .nil
  | d :: ds, _, h => by
    cases h with
    | cons a b => exact .cons (dp_ex e d _ a) (dpAll_ex e ds _ b)
end
theorem dpx (e : Ex H H') (h : Dp K H v d) : Dp K H' v d := dp_ex e d v h
theorem dp_int {i : Int} (h : Dp K H v (.int i)) : v = .int i := by cases h; rfl
theorem dp_bool {i : Bool} (h : Dp K H v (.bool i)) : v = .bl i := by cases h; rfl
theorem dp_str {i : PySem.Str} (h : Dp K H v (.str i)) : v = .str i := by cases h; rfl
theorem dpAll_ints : ∀ ns : List Int, DpAll K H (ns.map V.int) (ns.map PyData.int)
  | [] => .nil
  | n :: ns => .cons (.int n) (dpAll_ints ns)
theorem dpAll_ints' : ∀ (ns : List Int) (vs : List V), DpAll K H vs (ns.map PyData.int) → vs = ns.map V.int
  | [], _, h => by cases h; rfl
  | n :: ns, _, h => by
    cases h with
    | cons a b =>
      rw [dp_int a, dpAll_ints' ns _ b]
      rfl
theorem dp_dl {a : Addr} {ns : List Int} (h : SqL K H a (ns.map V.int)) : Dp K H (.ref a) (dl ns) := .lst h (dpAll_ints ns)
theorem dp_lst {a : Addr} {ns : List Int} (h : H a = some (.lst (ns.map V.int))) : Dp K H (.ref a) (dl ns) := dp_dl (sq_of h)
theorem dl_dp {ns : List Int} (h : Dp K H v (dl ns)) : ∃ a, v = .ref a ∧ SqL K H a (ns.map V.int) := by
  unfold dl at h
  cases h with
  | lst a b =>
    rw [dpAll_ints' ns _ b] at a
    exact ⟨_, rfl, a⟩
theorem dpAll_get {vs : List V} {ds : List PyData} (h : DpAll K H vs ds) : ∀ {i : Nat} {d : PyData}, ds[i]? = some d → ∃ v, vs[i]? = some v ∧ Dp K H v d := by
  induction ds generalizing vs with
  | nil => intro i d e; simp at e
  | cons d0 ds ih =>
    intro i d e
    cases h with
    | cons a b =>
      cases i with
      | zero =>
        have e' : d0 = d := Option.some.inj e
        exact ⟨_, rfl, e' ▸ a⟩
      | succ i => exact ih b (i := i) e
theorem dpAll_len {vs : List V} {ds : List PyData} (h : DpAll K H vs ds) : vs.length = ds.length := by
  induction ds generalizing vs with
  | nil => cases h; rfl
  | cons d0 ds ih =>
    cases h with
    | cons a b => rw [List.length_cons, List.length_cons, ih b]
theorem args1 {vs : List V} {a : PyData} (h : DpAll K H vs [a]) : ∃ x, vs = [x] ∧ Dp K H x a := by
  cases h with
  | cons h1 h2 => cases h2; exact ⟨_, rfl, h1⟩
theorem args2 {vs : List V} {a b : PyData} (h : DpAll K H vs [a, b]) : ∃ x y, vs = [x, y] ∧ Dp K H x a ∧ Dp K H y b := by
  cases h with
  | cons h1 h2 =>
    obtain ⟨y, rfl, h3⟩ := args1 h2
    exact ⟨_, _, rfl, h1, h3⟩
theorem args3 {vs : List V} {a b c : PyData} (h : DpAll K H vs [a, b, c]) : ∃ x y z, vs = [x, y, z] ∧ Dp K H x a ∧ Dp K H y b ∧ Dp K H z c := by
  cases h with
  | cons h1 h2 =>
    obtain ⟨y, z, rfl, h3⟩ := args2 h2
    exact ⟨_, _, _, rfl, h1, h3⟩
theorem args4 {vs : List V} {a b c d : PyData} (h : DpAll K H vs [a, b, c, d]) : ∃ x y z w, vs = [x, y, z, w] ∧ Dp K H x a ∧ Dp K H y b ∧ Dp K H z c ∧ Dp K H w d := by
  cases h with
  | cons h1 h2 =>
    obtain ⟨y, z, w, rfl, h3⟩ := args3 h2
    exact ⟨_, _, _, _, rfl, h1, h3⟩
theorem args5 {vs : List V} {a b c d e : PyData} (h : DpAll K H vs [a, b, c, d, e]) : ∃ x y z w u, vs = [x, y, z, w, u] ∧ Dp K H x a ∧ Dp K H y b ∧ Dp K H z c ∧ Dp K H w d ∧ Dp K H u e := by
  cases h with
  | cons h1 h2 =>
    obtain ⟨y, z, w, u, rfl, h3⟩ := args4 h2
    exact ⟨_, _, _, _, _, rfl, h1, h3⟩

/-! ### promises: a scalar, a new list of ints -/
def spF (K : PySem.W.Frag) (F : List PyData → V → Prop) : Sp := fun vs H Q _ => ∃ ds v, DpAll K H vs ds ∧ F ds v ∧ ∀ H', Ex H H' → Q v H'
def spG (K : PySem.W.Frag) (G : List PyData → List Int → Prop) : Sp := fun vs H Q _ => ∃ ds ns, DpAll K H vs ds ∧ G ds ns ∧ ∀ p H', H p = none → Ex H H' → H' p = some (.lst (ns.map V.int)) → Q (.ref p) H'

/-- a new list of ints of which P is known -/
def spR (K : PySem.W.Frag) (R : List PyData → (List Int → Prop) → Prop) : Sp := fun vs H Q _ => ∃ ds Pr, DpAll K H vs ds ∧ R ds Pr ∧ ∀ ns f H', Pr ns → H f = none → Ex H H' → H' f = some (.lst (ns.map V.int)) → Q (.ref f) H'
/-! ### what evaluates to what, as data -/
def EvD (K : PySem.W.Frag) (te : TE) (σ : L2.St) (H : Hp) (d : PyData) : Prop := ∀ H1, Ex H H1 → ∀ Q : VK, (∀ v H2, Ex H1 H2 → Dp K H2 v d → Q v H2) → te σ H1 Q
/-- a tracked list -/
def EvX (te : TE) (σ : L2.St) (H : Hp) (xs : List V) : Prop := ∀ H1, Ex H H1 → ∀ Q : VK, (∀ a H2, Ex H1 H2 → H2 a = some (.lst xs) → Q (.ref a) H2) → te σ H1 Q
def EvDA (K : PySem.W.Frag) (ta : TA) (σ : L2.St) (H : Hp) (ds : List PyData) : Prop := ∀ H1, Ex H H1 → ∀ Q : List V → Hp → Prop, (∀ vs H2, Ex H1 H2 → DpAll K H2 vs ds → Q vs H2) → ta σ H1 Q
theorem evd_i {i : Int} (h : Ev te σ H (.int i)) : EvD K te σ H (.int i) := fun H1 e Q q => h H1 e Q fun H2 e2 => q _ H2 e2 (.int i)
theorem evd_b {i : Bool} (h : Ev te σ H (.bl i)) : EvD K te σ H (.bool i) := fun H1 e Q q => h H1 e Q fun H2 e2 => q _ H2 e2 (.bl i)
theorem evd_s {i : PySem.Str} (h : Ev te σ H (.str i)) : EvD K te σ H (.str i) := fun H1 e Q q => h H1 e Q fun H2 e2 => q _ H2 e2 (.str i)
theorem evd_v (h : Ev te σ H v) (hd : Dp K H v d) : EvD K te σ H d := fun H1 e Q q => h H1 e Q fun H2 e2 => q _ H2 e2 (dpx (e.trans e2) hd)
theorem evd_l {ns : List Int} (h : EvL te σ H (ns.map V.int)) : EvD K te σ H (dl ns) := fun H1 e Q q => h H1 e Q fun p H2 _ e2 h2 => q _ H2 e2 (dp_lst h2)
theorem evx_l {xs : List V} (h : EvL te σ H xs) : EvX te σ H xs := fun H1 e Q q => h H1 e Q fun p H2 _ e2 h2 => q _ H2 e2 h2
theorem evx_v {a : Addr} {xs : List V} (h : Ev te σ H (.ref a)) (ha : H a = some (.lst xs)) : EvX te σ H xs := fun H1 e Q q => h H1 e Q fun H2 e2 => q _ H2 e2 ((e.trans e2) _ _ ha)
theorem evd_nil : EvDA K tNil σ H [] := fun H1 _ Q q => q _ H1 (Ex.refl H1) .nil
theorem evd_cons {tr : TA} {ds : List PyData} (h : EvD K ta σ H d) (hr : EvDA K tr σ H ds) : EvDA K (tCons ta tr) σ H (d :: ds) := fun H1 e Q q =>
  h H1 e _ fun v H2 e2 hv => hr H2 (e.trans e2) _ fun vs H3 e3 hvs => q _ H3 (e2.trans e3) (.cons (dpx e3 hv) hvs)
theorem ev_cd {F : List PyData → V → Prop} {E : XK} {ta : TA} {ds : List PyData} (h : EvDA K ta σ H ds) (hF : F ds z) : Ev (tCall (spF K F) [] E ta) σ H z := fun H1 e Q q =>
  h H1 e _ fun vs H2 e2 hv => ⟨ds, z, by rw [List.append_nil]; exact hv, hF, fun H3 e3 => q H3 (e2.trans e3)⟩
theorem el_cd {G : List PyData → List Int → Prop} {E : XK} {ta : TA} {ds : List PyData} {ns : List Int} (h : EvDA K ta σ H ds) (hG : G ds ns) : EvL (tCall (spG K G) [] E ta) σ H (ns.map V.int) := fun H1 e Q q =>
  h H1 e _ fun vs H2 e2 hv => ⟨ds, ns, by rw [List.append_nil]; exact hv, hG, fun p H3 hp e3 h3 => q p H3 (fresh_back e2 hp) (e2.trans e3) h3⟩
theorem atI_gi {ns : List Int} {i : Int} (h0 : 0 ≤ i) (h1 : i < ns.length) : atI (ns.map V.int) i = some (.int (gi ns i)) := by
  obtain ⟨j, rfl⟩ : ∃ j : Nat, i = (j : Int) := ⟨i.toNat, (Int.toNat_of_nonneg h0).symm⟩
  have hj : j < ns.length := by omega
  refine atI_nat ?_
  unfold gi
  rw [Int.toNat_natCast, List.getElem?_map, List.getElem?_eq_getElem hj, List.getD_eq_getElem?_getD, List.getElem?_eq_getElem hj]
  rfl
/-- xs[i], xs any list of ints -/
theorem ev_ix {ns : List Int} {i : Int} (ha : EvD K ta σ H (dl ns)) (hb : Ev tb σ H (.int i)) (h0 : 0 ≤ i) (h1 : i < ns.length) : Ev (tOp (rIxL K) ta tb) σ H (.int (gi ns i)) := fun H1 e Q q =>
  ha H1 e _ fun v H2 e2 hv => by
    obtain ⟨a, rfl, ha'⟩ := dl_dp hv
    exact hb H2 (e.trans e2) _ fun H3 e3 => ⟨a, _, i, _, rfl, rfl, ex_l e3 ha', atI_gi h0 h1, q H3 (e2.trans e3)⟩
/-- xs[i], xs a list of data -/
theorem ed_ix {ds : List PyData} {i : Int} (ha : EvD K ta σ H (.list ds)) (hb : Ev tb σ H (.int i)) (h0 : 0 ≤ i) (h : ds[i.toNat]? = some d) : EvD K (tOp (rIxL K) ta tb) σ H d := fun H1 e Q q =>
  ha H1 e _ fun v H2 e2 hv => by
    cases hv with
    | lst a b =>
      obtain ⟨v, h1, h2⟩ := dpAll_get b h
      exact hb H2 (e.trans e2) _ fun H3 e3 => ⟨_, _, _, v, rfl, rfl, ex_l e3 a, at_of (j := i.toNat) (by omega) h1, q v H3 (e2.trans e3) (dpx e3 h2)⟩
theorem ed_tix {ds : List PyData} {i : Int} (ha : EvD K ta σ H (.tuple ds)) (hb : Ev tb σ H (.int i)) (h0 : 0 ≤ i) (h : ds[i.toNat]? = some d) : EvD K (tOp (rIxT K) ta tb) σ H d := fun H1 e Q q =>
  ha H1 e _ fun v H2 e2 hv => by
    cases hv with
    | tup a b =>
      obtain ⟨v, h1, h2⟩ := dpAll_get b h
      exact hb H2 (e.trans e2) _ fun H3 e3 => ⟨_, _, _, v, rfl, rfl, ex_t e3 a, at_of (j := i.toNat) (by omega) h1, q v H3 (e2.trans e3) (dpx e3 h2)⟩
theorem ev_lenD {ns : List Int} (ha : EvD K ta σ H (dl ns)) : Ev (tCB (rLenS K) (tCons ta tNil)) σ H (.int (ns.length : Int)) := fun H1 e Q q =>
  ha H1 e _ fun v H2 e2 hv => by
    obtain ⟨a, rfl, ha'⟩ := dl_dp hv
    refine ⟨a, _, rfl, .inl ha', ?_⟩
    rw [List.length_map]
    exact q H2 e2
theorem ev_lenDD {ds : List PyData} (ha : EvD K ta σ H (.list ds)) : Ev (tCB (rLenS K) (tCons ta tNil)) σ H (.int (ds.length : Int)) := fun H1 e Q q =>
  ha H1 e _ fun v H2 e2 hv => by
    cases hv with
    | lst a b =>
      refine ⟨_, _, rfl, .inl a, ?_⟩
      rw [dpAll_len b]
      exact q H2 e2
/-- list(xs) -/
theorem el_listD {ns : List Int} (ha : EvD K ta σ H (dl ns)) : EvL (tCB (rListS K) (tCons ta tNil)) σ H (ns.map V.int) := fun H1 e Q q =>
  ha H1 e _ fun v H2 e2 hv => by
    obtain ⟨a, rfl, ha'⟩ := dl_dp hv
    exact ⟨a, _, rfl, .inl ha', fun l hl => q l _ (fresh_back e2 hl) (e2.trans (Ex.new hl)) upd_same⟩
/-- slices -/
def cutI (ns : List Int) (lo hi : Option Int) : List Int := (ns.drop (HT.sIx ns.length 0 lo)).take (HT.sIx ns.length ns.length hi - HT.sIx ns.length 0 lo)
theorem cutV_ints (ns : List Int) (lo hi : Option Int) : cutV (ns.map V.int) lo hi = (cutI ns lo hi).map V.int := by
  unfold cutV cutI
  rw [List.length_map, List.map_take, List.map_drop]
theorem cut_to {ns : List Int} {n : Int} {j : Nat} (e : n = (j : Int)) (h : j ≤ ns.length) : cutI ns none (some n) = ns.take j := by
  subst e
  unfold cutI
  rw [HT.sIx_nat, HT.sIx_none, Nat.min_eq_left h]
  simp
theorem cut_from {ns : List Int} {n : Int} {j : Nat} (e : n = (j : Int)) (h : j ≤ ns.length) : cutI ns (some n) none = ns.drop j := by
  subst e
  unfold cutI
  rw [HT.sIx_nat, HT.sIx_none, Nat.min_eq_left h, List.take_of_length_le]
  rw [List.length_drop]
  exact Nat.le_refl _
theorem el_slD {tl th : TO} {ns : List Int} {lo hi : Option Int} (h : EvD K te σ H (dl ns)) (h1 : EvO tl σ H lo) (h2 : EvO th σ H hi) : EvL (tSl (rSlL K) te tl th) σ H ((cutI ns lo hi).map V.int) := fun H1 e Q q =>
  h H1 e _ fun v H2 e2 hv => by
    obtain ⟨a, rfl, ha'⟩ := dl_dp hv
    exact h1 H2 (e.trans e2) _ fun H3 e3 => h2 H3 ((e.trans e2).trans e3) _ fun H4 e4 =>
      ⟨a, _, rfl, ex_l (e3.trans e4) ha', fun p hp => q p _ (fresh_back ((e2.trans e3).trans e4) hp) (((e2.trans e3).trans e4).trans (Ex.new hp)) (by rw [cutV_ints]; exact upd_same)⟩
/-- xs[:n], xs[n:] -/
theorem el_to {ns : List Int} {n : Int} (h : EvD K te σ H (dl ns)) (h1 : Ev tb σ H (.int n)) (h0 : 0 ≤ n) (hl : n ≤ ns.length) : EvL (tSl (rSlL K) te tNoPart (tPart tb)) σ H ((ns.take n.toNat).map V.int) := by
  rw [← cut_to (j := n.toNat) (n := n) (by omega) (by omega)]
  exact el_slD h eo_none (eo_some h1)
theorem el_from {ns : List Int} {n : Int} (h : EvD K te σ H (dl ns)) (h1 : Ev tb σ H (.int n)) (h0 : 0 ≤ n) (hl : n ≤ ns.length) : EvL (tSl (rSlL K) te (tPart tb) tNoPart) σ H ((ns.drop n.toNat).map V.int) := by
  rw [← cut_from (j := n.toNat) (n := n) (by omega) (by omega)]
  exact el_slD h (eo_some h1) eo_none
/-- xs + ys -/
theorem el_catX {xs ys : List V} (ha : EvX ta σ H xs) (hb : EvX tb σ H ys) (hl : xs.length + ys.length ≤ 100000) : EvL (tOp rCat ta tb) σ H (xs ++ ys) := fun H1 e Q q =>
  ha H1 e _ fun a H2 e2 h2 => hb H2 (e.trans e2) _ fun b H3 e3 h3 => ⟨a, b, xs, ys, rfl, rfl, e3 _ _ h2, h3, sz_of hl, fun p hp => q p _ (fresh_back (e2.trans e3) hp) ((e2.trans e3).trans (Ex.new hp)) upd_same⟩
theorem el_cat {xs ys : List Int} (ha : EvX ta σ H (xs.map V.int)) (hb : EvX tb σ H (ys.map V.int)) (hl : xs.length + ys.length ≤ 100000) : EvL (tOp rCat ta tb) σ H ((xs ++ ys).map V.int) := by
  rw [List.map_append]
  exact el_catX ha hb (by rw [List.length_map, List.length_map]; exact hl)
/-- [e] -/
theorem el_one {i : Int} (h : Ev te σ H (.int i)) : EvL (tLst (tCons te tNil)) σ H (([i] : List Int).map V.int) := el_lst (ea_cons h ea_nil) (by show 1 ≤ 100000; decide)
theorem el_nil : EvL (tLst tNil) σ H (([] : List Int).map V.int) := el_lst ea_nil (Nat.zero_le _)
/-- a list of written ints -/
theorem el_ints {ta : TA} {ns : List Int} (h : EvA ta σ H (ns.map V.int)) (hl : ns.length ≤ 100000) : EvL (tLst ta) σ H (ns.map V.int) := el_lst h (by rw [List.length_map]; exact hl)
/-- a list of data -/
theorem ed_lst {ta : TA} {ds : List PyData} (h : EvDA K ta σ H ds) (hl : ds.length ≤ 100000) : EvD K (tLst ta) σ H (.list ds) := fun H1 e Q q =>
  h H1 e _ fun vs H2 e2 hv => ⟨by rw [dpAll_len hv]; exact sz_of hl, fun p hp => q _ _ (e2.trans (Ex.new hp)) (.lst (sq_of upd_same) (dpAll_ex (Ex.new hp) _ _ hv))⟩
theorem ed_tup {ta : TA} {ds : List PyData} (h : EvDA K ta σ H ds) (hl : ds.length ≤ 100000) : EvD K (tTup ta) σ H (.tuple ds) := fun H1 e Q q =>
  h H1 e _ fun vs H2 e2 hv => ⟨by rw [dpAll_len hv]; exact sz_of hl, fun p hp => q _ _ (e2.trans (Ex.new hp)) (.tup (st_of upd_same) (dpAll_ex (Ex.new hp) _ _ hv))⟩

theorem dec_int (i j : Int) : decide (V.int i = V.int j) = decide (i = j) := by
  by_cases h : i = j
  · subst h
    simp
  · have h2 : ¬ V.int i = V.int j := fun q => h (V.int.inj q)
    rw [decide_eq_false h, decide_eq_false h2]
theorem dec_bool (i j : Bool) : decide (V.bl i = V.bl j) = decide (i = j) := by
  by_cases h : i = j
  · subst h
    simp
  · have h2 : ¬ V.bl i = V.bl j := fun q => h (V.bl.inj q)
    rw [decide_eq_false h, decide_eq_false h2]
theorem dec_str (i j : PySem.Str) : decide (V.str i = V.str j) = decide (i = j) := by
  by_cases h : i = j
  · subst h
    simp
  · have h2 : ¬ V.str i = V.str j := fun q => h (V.str.inj q)
    rw [decide_eq_false h, decide_eq_false h2]
theorem rv_eqI {i j : Int} : RV rEq (.int i) (.int j) H (.bl (decide (i = j))) := by
  rw [← dec_int]
  exact rv_eq rfl
theorem rv_neI {i j : Int} : RV rNe (.int i) (.int j) H (.bl (!decide (i = j))) := by
  rw [← dec_int]
  exact rv_ne rfl
theorem rv_eqB {i j : Bool} : RV rEq (.bl i) (.bl j) H (.bl (decide (i = j))) := by
  rw [← dec_bool]
  exact rv_eq rfl
theorem rv_neB {i j : Bool} : RV rNe (.bl i) (.bl j) H (.bl (!decide (i = j))) := by
  rw [← dec_bool]
  exact rv_ne rfl
theorem rv_eqS {i j : PySem.Str} : RV rEq (.str i) (.str j) H (.bl (decide (i = j))) := by
  rw [← dec_str]
  exact rv_eq rfl
theorem rv_neS {i j : PySem.Str} : RV rNe (.str i) (.str j) H (.bl (!decide (i = j))) := by
  rw [← dec_str]
  exact rv_ne rfl
theorem cl_len {X : Cx} {K : PySem.W.Frag} (h : X.K = K) : CallR X (.builtin "len") (rLenS K) := h ▸ call_len_seq
theorem cl_list {X : Cx} {K : PySem.W.Frag} (h : X.K = K) : CallR X (.type "list") (rListS K) := h ▸ call_list_of
theorem cl_sum {X : Cx} {K : PySem.W.Frag} (h : X.K = K) (hc : X.calm = true) : CallR X (.builtin "sum") (rSum K) := h ▸ cr_sum hc
theorem cl_all {X : Cx} {K : PySem.W.Frag} (h : X.K = K) (hc : X.calm = true) : CallR X (.builtin "all") (rAll K) := h ▸ cr_all hc
theorem cl_isi {X : Cx} {K : PySem.W.Frag} (h : X.K = K) : CallR X (.builtin "isinstance") (rIsi K) := h ▸ call_isi
theorem ixL {X : Cx} {K : PySem.W.Frag} (h : X.K = K) : IxR X (rIxL K) := h ▸ ix_list
theorem ixT {X : Cx} {K : PySem.W.Frag} (h : X.K = K) : IxR X (rIxT K) := h ▸ ix_tup
theorem slL {X : Cx} {K : PySem.W.Frag} (h : X.K = K) : SlR X (rSlL K) := h ▸ sl_list
theorem opEqD {X : Cx} {K : PySem.W.Frag} (h : X.K = K) (hu : X.A.units + 64 < cLine) : OpR X (compareOp .Eq) (rEqD K) := h ▸ op_eqD hu
theorem opNeD {X : Cx} {K : PySem.W.Frag} (h : X.K = K) (hu : X.A.units + 64 < cLine) : OpR X (compareOp .NotEq) (rNeD K) := h ▸ op_neD hu
theorem opIn {X : Cx} {K : PySem.W.Frag} (h : X.K = K) : OpR X (compareOp .In) (rIn K false) := h ▸ op_in_seq
/-- sums, all, min, max -/
theorem ev_sumD {ns : List Int} (ha : EvD K ta σ H (dl ns)) : Ev (tCB (rSum K) (tCons ta tNil)) σ H (.int ns.sum) := fun H1 e Q q =>
  ha H1 e _ fun v H2 e2 hv => by
    obtain ⟨a, rfl, ha'⟩ := dl_dp hv
    exact ⟨a, ns, rfl, ha', q H2 e2⟩
theorem ev_allN {bs : List Bool} (ha : EvL ta σ H (bs.map V.bl)) : Ev (tCB (rAll K) (tCons ta tNil)) σ H (.bl (bs.all id)) := fun H1 e Q q =>
  ha H1 e _ fun p H2 _ e2 h2 => ⟨p, bs, rfl, sq_of h2, q H2 e2⟩
def rMin2 : List V → Hp → VK → Prop := fun xs H Q => ∃ i j, xs = [.int i, .int j] ∧ Q (.int (if j < i then j else i)) H
theorem cl_max2 {X : Cx} (hc : X.calm = true) : CallR X (.builtin "max") rMax2 := call_max2 hc
theorem cl_min2 {X : Cx} (hc : X.calm = true) : CallR X (.builtin "min") rMin2 := call_min2 hc
theorem ev_min2 {i j : Int} (ha : Ev ta σ H (.int i)) (hb : Ev tb σ H (.int j)) : Ev (tCB rMin2 (tCons ta (tCons tb tNil))) σ H (.int (if j < i then j else i)) := fun H1 e Q q =>
  ha H1 e _ fun H2 e2 => hb H2 (e.trans e2) _ fun H3 e3 => ⟨i, j, rfl, q H3 (e2.trans e3)⟩
/-- int(True), int(n) -/
def rInt1 : List V → Hp → VK → Prop := fun xs H Q => (∃ i, xs = [.int i] ∧ Q (.int i) H) ∨ ∃ k, xs = [.bl k] ∧ Q (.int (if k then 1 else 0)) H
theorem cl_int1 {X : Cx} : CallR X (.type "int") rInt1 := call_int1
theorem ev_intb {b : Bool} (ha : Ev ta σ H (.bl b)) : Ev (tCB rInt1 (tCons ta tNil)) σ H (.int (if b then 1 else 0)) := fun H1 e Q q =>
  ha H1 e _ fun H2 e2 => Or.inr ⟨b, rfl, q H2 e2⟩
/-- a < b < c on ints -/
theorem ev_chainI {g g' : Int → Int → Bool} {i j k : Int} (ha : Ev ta σ H (.int i)) (hb : Ev tb σ H (.int j)) (hc : Ev tc σ H (.int k)) :
    Ev (tChain (rI0 fun i j => .bl (g i j)) (rI0 fun i j => .bl (g' i j)) ta tb tc) σ H (.bl (g i j && g' j k)) := fun H1 e Q q =>
  ha H1 e _ fun H2 e2 => hb H2 (e.trans e2) _ fun H3 e3 => ⟨i, j, rfl, rfl, g i j, rfl, by
    cases hg : g i j with
    | true =>
      show tc σ H3 _
      refine hc H3 ((e.trans e2).trans e3) _ fun H4 e4 => ⟨j, k, rfl, rfl, ?_⟩
      rw [hg] at q
      exact q H4 ((e2.trans e3).trans e4)
    | false =>
      show Q (.bl false) H3
      rw [hg] at q
      exact q H3 (e2.trans e3)⟩
/-- == of data -/
theorem ev_eqD {e : PyData} (ha : EvD K ta σ H d) (hb : EvD K tb σ H e) (sd : SeqAt.shaped d = true) (se : SeqAt.shaped e = true) : Ev (tOp (rEqD K) ta tb) σ H (.bl (PyData.eqv d e)) := fun H1 e1 Q q =>
  ha H1 e1 _ fun v H2 e2 hv => hb H2 (e1.trans e2) _ fun u H3 e3 hu => ⟨d, e, dpx e3 hv, hu, sd, se, q H3 (e2.trans e3)⟩
theorem ev_neD {e : PyData} (ha : EvD K ta σ H d) (hb : EvD K tb σ H e) (sd : SeqAt.shaped d = true) (se : SeqAt.shaped e = true) : Ev (tOp (rNeD K) ta tb) σ H (.bl (!PyData.eqv d e)) := fun H1 e1 Q q =>
  ha H1 e1 _ fun v H2 e2 hv => hb H2 (e1.trans e2) _ fun u H3 e3 hu => ⟨d, e, dpx e3 hv, hu, sd, se, q H3 (e2.trans e3)⟩
theorem can_ints : ∀ ns : List Int, PyData.canLayAll0 (ns.map PyData.int) = true
  | [] => rfl
  | n :: ns => by
    show (PyData.canLay0 (.int n) && PyData.canLayAll0 (ns.map PyData.int)) = true
    rw [can_ints ns] <;> rfl
theorem dep_ints : ∀ ns : List Int, PyData.depthAll (ns.map PyData.int) = 0
  | [] => rfl
  | n :: ns => by
    show max (PyData.depth (.int n)) (PyData.depthAll (ns.map PyData.int)) = 0
    rw [dep_ints ns] <;> rfl
theorem can_dl (ns : List Int) : PyData.canLay0 (dl ns) = true := can_ints ns
theorem dep_dl (ns : List Int) : PyData.depth (dl ns) = 1 := by
  show PyData.depthAll (ns.map PyData.int) + 1 = 1
  rw [dep_ints]
theorem shaped_dl (ns : List Int) : SeqAt.shaped (dl ns) = true := by
  unfold SeqAt.shaped
  rw [can_dl, dep_dl] <;> rfl
theorem shaped_2 (ns ms : List Int) : SeqAt.shaped (.list [dl ns, dl ms]) = true := by
  have h1 : PyData.canLay0 (.list [dl ns, dl ms]) = true := by
    show (PyData.canLay0 (dl ns) && (PyData.canLay0 (dl ms) && true)) = true
    rw [can_dl, can_dl] <;> rfl
  have h2 : PyData.depth (.list [dl ns, dl ms]) = 2 := by
    show max (PyData.depth (dl ns)) (max (PyData.depth (dl ms)) 0) + 1 = 2
    rw [dep_dl, dep_dl] <;> rfl
  unfold SeqAt.shaped
  rw [h1, h2] <;> rfl
theorem eqvAll_ints : ∀ ns ms : List Int, PyData.eqvAll (ns.map PyData.int) (ms.map PyData.int) = decide (ns = ms)
  | [], [] => rfl
  | [], _ :: _ => rfl
  | _ :: _, [] => rfl
  | n :: ns, m :: ms => by
    show (PyData.eqv (.int n) (.int m) && PyData.eqvAll (ns.map PyData.int) (ms.map PyData.int)) = _
    rw [eqvAll_ints ns ms]
    show ((n == m) && decide (ns = ms)) = decide (n :: ns = m :: ms)
    by_cases h1 : n = m
    · subst h1
      by_cases h2 : ns = ms
      · subst h2
        simp
      · simp [h2]
    · simp [h1]
theorem eqv_dl (ns ms : List Int) : PyData.eqv (dl ns) (dl ms) = decide (ns = ms) := eqvAll_ints ns ms
theorem eqv_22 (ns ms : List Int) : PyData.eqv (.list [dl ns, dl ms]) (.list [dl ns, dl ms]) = true := by
  show (PyData.eqv (dl ns) (dl ns) && (PyData.eqv (dl ms) (dl ms) && true)) = true
  rw [eqv_dl, eqv_dl]
  simp

/-! ### comprehensions -/
theorem given_all (n : Nat) (v : Nat → V) : given n (fun _ => true) v = (List.range n).map v := by
  unfold given
  rw [List.filter_eq_self.mpr (fun _ _ => rfl)]
theorem et_yes : EvT tYes σ H true := fun H1 _ Q q => q H1 (Ex.refl H1)
/-- [e for k in range(n)] of ints -/
theorem el_r1 {ta : TA} {j : Nat} {vs : List Nat} {n : Int} (v : Nat → Int) (h : EvA ta σ H [.int n]) (hn : 0 ≤ n ∧ n ≤ 40000) (hw : ∀ x, wipe ((wipe σ vs).set j (some x)) vs = wipe σ vs)
    (he : ∀ (i : Nat) H1, Ex H H1 → (i : Int) < n → Ev te ((wipe σ vs).set j (some (.int (i : Int)))) H1 (.int (v i))) : EvL (tLc (iRng1 ta) (gName j) tYes te vs) σ H (((List.range n.toNat).map v).map V.int) := by
  have q := el_lcR1 (te := te) (t := tYes) (σ := σ) (H := H) (j := j) (vs := vs) (n := n) (fun _ => true) (fun i => V.int (v i)) h hn hw (fun _ _ _ _ => et_yes) (fun i H1 e hi _ => he i H1 e hi)
  rw [given_all] at q
  rw [List.map_map]
  exact q
theorem el_lcR2 {ta : TA} {j : Nat} {vs : List Nat} {lo n : Int} (f : Nat → Bool) (v : Nat → V) (h : EvA ta σ H [.int lo, .int n]) (hn : 0 ≤ lo ∧ lo ≤ 40000 ∧ -40000 ≤ n ∧ n ≤ 40000) (hw : ∀ x, wipe ((wipe σ vs).set j (some x)) vs = wipe σ vs)
    (ht : ∀ (i : Nat) H1, Ex H H1 → lo + (i : Int) < n → EvT t ((wipe σ vs).set j (some (.int (lo + (i : Int))))) H1 (f i)) (he : ∀ (i : Nat) H1, Ex H H1 → lo + (i : Int) < n → f i = true → Ev te ((wipe σ vs).set j (some (.int (lo + (i : Int))))) H1 (v i)) :
    EvL (tLc (iRng2 ta) (gName j) t te vs) σ H (given (n - lo).toNat f v) := fun H0 e Q q => h H0 e _ fun H1 e1 => ⟨lo, n, rfl, ⟨by omega, by omega, by omega, by omega⟩, fun Dl hD =>
  lc_range (lo := lo) (n := (n - lo).toNat) (Cw H1 f v Dl) ⟨hD, Ex.new hD, upd_same⟩ (fun i H' hi p => ⟨hw _, cw_turn p (by omega) (ht i H1 (e.trans e1) (by omega)) (fun hf => he i H1 (e.trans e1) (by omega) hf)⟩)
    (fun H' p => q Dl H' (fresh_back e1 p.1) (e1.trans p.2.1) p.2.2)⟩
theorem el_r2 {ta : TA} {j : Nat} {vs : List Nat} {lo n : Int} (v : Nat → V) (h : EvA ta σ H [.int lo, .int n]) (hn : 0 ≤ lo ∧ lo ≤ 40000 ∧ -40000 ≤ n ∧ n ≤ 40000) (hw : ∀ x, wipe ((wipe σ vs).set j (some x)) vs = wipe σ vs)
    (he : ∀ (i : Nat) H1, Ex H H1 → lo + (i : Int) < n → Ev te ((wipe σ vs).set j (some (.int (lo + (i : Int))))) H1 (v i)) : EvL (tLc (iRng2 ta) (gName j) tYes te vs) σ H ((List.range (n - lo).toNat).map v) := by
  have q := el_lcR2 (te := te) (t := tYes) (σ := σ) (H := H) (j := j) (vs := vs) (lo := lo) (n := n) (fun _ => true) v h hn hw (fun _ _ _ _ => et_yes) (fun i H1 e hi _ => he i H1 e hi)
  rw [given_all] at q
  exact q
/-- [e for x in xs], xs of ints -/
theorem el_li {ns : List Int} {tl : TE} {j : Nat} {vs : List Nat} (v : Int → V) (h : EvD K tl σ H (dl ns)) (hz : ns.length ≤ 40000) (hw : ∀ x, wipe ((wipe σ vs).set j (some x)) vs = wipe σ vs)
    (he : ∀ (x : Int) H1, Ex H H1 → x ∈ ns → Ev te ((wipe σ vs).set j (some (.int x))) H1 (v x)) : EvL (tLc (iList K tl) (gName j) tYes te vs) σ H (ns.map v) := fun H0 e Q q => h H0 e _ fun w H1 e1 hv => by
  obtain ⟨a, rfl, ha⟩ := dl_dp hv
  refine ⟨a, rfl, ⟨_, ha⟩, fun Dl hD => ?_⟩
  refine lc_list (K := K) (a := a) (xs := ns.map V.int) (Cw H1 (fun _ => true) (fun i => v (ns.getD i 0)) Dl) ⟨hD, Ex.new hD, upd_same⟩ (fun i H' _ p => ex_l p.2.1 ha) (fun i x H' hi p => ⟨hw x, ?_⟩) (fun H' p => ?_)
  · have hl : i < ns.length := by
      have := (List.getElem?_eq_some_iff.mp hi).1
      rw [List.length_map] at this
      exact this
    have ex : x = .int ns[i] := by
      rw [List.getElem?_map, List.getElem?_eq_getElem hl] at hi
      exact (Option.some.inj hi).symm
    subst ex
    have eg : ns.getD i 0 = ns[i] := by rw [List.getD_eq_getElem?_getD, List.getElem?_eq_getElem hl]; rfl
    refine cw_turn p (by omega) (fun H2 _ Q q => q H2 (Ex.refl H2)) (fun _ => ?_)
    show Ev te _ H1 (v (ns.getD i 0))
    rw [eg]
    exact (he ns[i] H1 (e.trans e1) (List.getElem_mem hl))
  · refine q Dl H' (fresh_back e1 p.1) (e1.trans p.2.1) ?_
    have h3 := p.2.2
    rw [given_all, List.length_map] at h3
    have e4 : (List.range ns.length).map (fun i => v (ns.getD i 0)) = ns.map v := by
      refine List.ext_getElem (by simp) fun i h1 h2 => ?_
      have h5 : i < ns.length := by simpa using h2
      rw [List.getElem_map, List.getElem_map, List.getElem_range, List.getD_eq_getElem?_getD, List.getElem?_eq_getElem h5]
      rfl
    rw [e4] at h3
    exact h3
end
/-! ### statements -/
section
variable {K : PySem.W.Frag} {σ : L2.St} {H H' : Hp} {ta tb te tx : TE} {t u : TT} {x y z v : V} {D : Ends} {tu tw tz : TS} {g : TG}
theorem q_asgD {i : Nat} {d : PyData} (h : EvD K te σ H d) (k : ∀ v H1, Ex H H1 → Dp K H1 v d → tz D (σ.set i (some v)) H1) : tSeq (tAsg te (gName i)) tz D σ H := h H (Ex.refl H) _ fun v H1 e hv => k v H1 e hv
theorem s_asgD {i : Nat} {d : PyData} (h : EvD K te σ H d) (k : ∀ v H1, Ex H H1 → Dp K H1 v d → D.nx (σ.set i (some v)) H1) : tAsg te (gName i) D σ H := h H (Ex.refl H) _ fun v H1 e hv => k v H1 e hv
/-- x = f(..), f by any promise -/
theorem q_call {i : Nat} {sp : Sp} {E : XK} {ta : TA} {ds : List PyData} (h : EvDA K ta σ H ds) (k : ∀ vs H1, Ex H H1 → DpAll K H1 vs ds → sp vs H1 (fun v H2 => tz D (σ.set i (some v)) H2) E) : tSeq (tAsg (tCall sp [] E ta) (gName i)) tz D σ H :=
  h H (Ex.refl H) _ fun vs H1 e hv => by
    have q := k vs H1 e hv
    rw [List.append_nil]
    exact q
theorem s_asgR {i : Nat} {R : List PyData → (List Int → Prop) → Prop} {E : XK} {ta : TA} {ds : List PyData} {Pr : List Int → Prop} (h : EvDA K ta σ H ds) (hR : R ds Pr) (k : ∀ ns f H1, Pr ns → H f = none → Ex H H1 → H1 f = some (.lst (ns.map V.int)) → D.nx (σ.set i (some (.ref f))) H1) : tAsg (tCall (spR K R) [] E ta) (gName i) D σ H :=
  h H (Ex.refl H) _ fun vs H1 e hv => ⟨ds, Pr, by rw [List.append_nil]; exact hv, hR, fun ns f H2 hp hf e2 h2 => k ns f H2 hp (fresh_back e hf) (e.trans e2) h2⟩
theorem q_asgR {i : Nat} {R : List PyData → (List Int → Prop) → Prop} {E : XK} {ta : TA} {ds : List PyData} {Pr : List Int → Prop} (h : EvDA K ta σ H ds) (hR : R ds Pr) (k : ∀ ns f H1, Pr ns → H f = none → Ex H H1 → H1 f = some (.lst (ns.map V.int)) → tz D (σ.set i (some (.ref f))) H1) : tSeq (tAsg (tCall (spR K R) [] E ta) (gName i)) tz D σ H := s_asgR (D := { D with nx := tz D }) h hR k
theorem s_retR {R : List PyData → (List Int → Prop) → Prop} {E : XK} {ta : TA} {ds : List PyData} {Pr : List Int → Prop} (h : EvDA K ta σ H ds) (hR : R ds Pr) (k : ∀ ns f H1, Pr ns → H f = none → Ex H H1 → H1 f = some (.lst (ns.map V.int)) → D.rt (.ref f) H1) : tRet (tCall (spR K R) [] E ta) D σ H :=
  h H (Ex.refl H) _ fun vs H1 e hv => ⟨ds, Pr, by rw [List.append_nil]; exact hv, hR, fun ns f H2 hp hf e2 h2 => k ns f H2 hp (fresh_back e hf) (e.trans e2) h2⟩
/-- x = xs.pop() -/
theorem q_popI {i : Nat} {l : Addr} {ns : List Int} {y : Int} (hl : H l = some (.lst ((ns ++ [y]).map V.int))) (ha : Ev ta σ H (.ref l)) (k : ∀ H1, Ex H H1 → tz D (σ.set i (some (.int y))) (upd H1 l (.lst (ns.map V.int)))) : tSeq (tAsg (tBM0 K "list" rPop ta) (gName i)) tz D σ H :=
  ha H (Ex.refl H) _ fun H1 e1 => ⟨Or.inl ⟨rfl, _, sq_of (e1 l _ hl)⟩, l, _, .int y, rfl, rfl, e1 l _ hl, by rw [List.map_append, List.length_append]; simp, by
    have q := k H1 e1
    rw [List.map_append, List.map_singleton, List.dropLast_concat]
    exact q⟩
/-- xs[i] = e, i an int -/
theorem ixN_int {n : Nat} {i : Int} (h0 : 0 ≤ i) (h1 : i < n) : ixN n i = some i.toNat := by
  unfold ixN
  rw [if_pos h0, if_pos h1]
theorem s_setI {l : Addr} {ns : List Int} {i y : Int} (hl : H l = some (.lst (ns.map V.int))) (h : Ev te σ H (.int y)) (ho : Ev ta σ H (.ref l)) (hi : Ev tb σ H (.int i)) (h0 : 0 ≤ i) (h1 : i < ns.length) (k : ∀ H1, Ex H H1 → D.nx σ (upd H1 l (.lst ((ns.set i.toNat y).map V.int)))) :
    tAsg te (gSub ta tb rSetL) D σ H := h H (Ex.refl H) _ fun H1 e1 => ho H1 e1 _ fun H2 e2 => hi H2 (e1.trans e2) _ fun H3 e3 =>
  ⟨l, _, i, i.toNat, rfl, rfl, ((e1.trans e2).trans e3) l _ hl, ixN_int h0 (by rw [List.length_map]; exact h1), by rw [← List.map_set]; exact k H3 ((e1.trans e2).trans e3)⟩
theorem q_setI {l : Addr} {ns : List Int} {i y : Int} (hl : H l = some (.lst (ns.map V.int))) (h : Ev te σ H (.int y)) (ho : Ev ta σ H (.ref l)) (hi : Ev tb σ H (.int i)) (h0 : 0 ≤ i) (h1 : i < ns.length) (k : ∀ H1, Ex H H1 → tz D σ (upd H1 l (.lst ((ns.set i.toNat y).map V.int)))) :
    tSeq (tAsg te (gSub ta tb rSetL)) tz D σ H := s_setI (D := { D with nx := tz D }) hl h ho hi h0 h1 k
/-- xs.append(e) of an int -/
theorem s_appI {l : Addr} {ns : List Int} {i : Int} (hl : H l = some (.lst (ns.map V.int))) (ha : Ev ta σ H (.ref l)) (h : Ev te σ H (.int i)) (hz : ns.length < 100000) (k : ∀ H1, Ex H H1 → D.nx σ (upd H1 l (.lst ((ns ++ [i]).map V.int)))) :
    tDrop (tBM K "list" rAppend ta (tCons te tNil)) D σ H := s_app hl ha h (by rw [List.length_map]; exact hz) fun H1 e => by
  have q := k H1 e
  rw [List.map_append] at q
  exact q
theorem q_appI {l : Addr} {ns : List Int} {i : Int} (hl : H l = some (.lst (ns.map V.int))) (ha : Ev ta σ H (.ref l)) (h : Ev te σ H (.int i)) (hz : ns.length < 100000) (k : ∀ H1, Ex H H1 → tz D σ (upd H1 l (.lst ((ns ++ [i]).map V.int)))) :
    tSeq (tDrop (tBM K "list" rAppend ta (tCons te tNil))) tz D σ H := s_appI (D := { D with nx := tz D }) hl ha h hz k
end
/-! ### lists of data -/
section
variable {K : PySem.W.Frag} {σ : L2.St} {H H' : Hp} {ta tb tc te tx tl : TE} {t u : TT} {x y z v : V} {D : Ends} {tu tw tz : TS} {g : TG} {d : PyData} {ds es : List PyData}
/-- a tracked list of data; a new one -/
def EvXD (K : PySem.W.Frag) (te : TE) (σ : L2.St) (H : Hp) (ds : List PyData) : Prop := ∀ H1, Ex H H1 → ∀ Q : VK, (∀ a xs H2, Ex H1 H2 → H2 a = some (.lst xs) → DpAll K H2 xs ds → Q (.ref a) H2) → te σ H1 Q
def EvLD (K : PySem.W.Frag) (te : TE) (σ : L2.St) (H : Hp) (ds : List PyData) : Prop := ∀ H1, Ex H H1 → ∀ Q : VK, (∀ a xs H2, H1 a = none → Ex H1 H2 → H2 a = some (.lst xs) → DpAll K H2 xs ds → Q (.ref a) H2) → te σ H1 Q
theorem evLD_x (h : EvLD K te σ H ds) : EvXD K te σ H ds := fun H1 e Q q => h H1 e Q fun a xs H2 _ e2 h2 h3 => q a xs H2 e2 h2 h3
theorem evXD_d (h : EvXD K te σ H ds) : EvD K te σ H (.list ds) := fun H1 e Q q => h H1 e Q fun a xs H2 e2 h2 h3 => q _ H2 e2 (.lst (sq_of h2) h3)
theorem exd_v {a : Addr} {xs : List V} (h : Ev te σ H (.ref a)) (ha : H a = some (.lst xs)) (hd : DpAll K H xs ds) : EvXD K te σ H ds := fun H1 e Q q => h H1 e Q fun H2 e2 => q a xs H2 e2 ((e.trans e2) _ _ ha) (dpAll_ex (e.trans e2) _ _ hd)
theorem eld_lst {ta : TA} (h : EvDA K ta σ H ds) (hl : ds.length ≤ 100000) : EvLD K (tLst ta) σ H ds := fun H1 e Q q =>
  h H1 e _ fun vs H2 e2 hv => ⟨by rw [dpAll_len hv]; exact sz_of hl, fun p hp => q p vs _ (fresh_back e2 hp) (e2.trans (Ex.new hp)) upd_same (dpAll_ex (Ex.new hp) _ _ hv)⟩
theorem dpAll_app {xs ys : List V} : ∀ {ds es : List PyData}, DpAll K H xs ds → DpAll K H ys es → DpAll K H (xs ++ ys) (ds ++ es) := by
  intro ds
  induction ds generalizing xs with
  | nil =>
    intro es h h2
    cases h
    exact h2
  | cons d ds ih =>
    intro es h h2
    cases h with
    | cons a b => exact .cons a (ih b h2)
theorem eld_cat (ha : EvXD K ta σ H ds) (hb : EvXD K tb σ H es) (hl : ds.length + es.length ≤ 100000) : EvLD K (tOp rCat ta tb) σ H (ds ++ es) := fun H1 e Q q =>
  ha H1 e _ fun a xs H2 e2 h2 d2 => hb H2 (e.trans e2) _ fun b ys H3 e3 h3 d3 => ⟨a, b, xs, ys, rfl, rfl, e3 _ _ h2, h3, by rw [dpAll_len d2, dpAll_len d3]; exact sz_of hl, fun p hp =>
    q p _ _ (fresh_back (e2.trans e3) hp) ((e2.trans e3).trans (Ex.new hp)) upd_same (dpAll_app (dpAll_ex (e3.trans (Ex.new hp)) _ _ d2) (dpAll_ex (Ex.new hp) _ _ d3))⟩
/-- for x in a list of data that stays -/
theorem s_forD {j : Nat} (h : EvXD K tl σ H ds) (Pv : Hp → Nat → L2.St → Hp → Prop) (h0 : ∀ H1, Ex H H1 → Pv H1 0 σ H1) (hl : ∀ H1 i σ' H', Pv H1 i σ' H' → Ex H1 H')
    (hs : ∀ H1 (i : Nat) v d σ' H', Ex H H1 → ds[i]? = some d → Pv H1 i σ' H' → Dp K H' v d → tu { D with nx := Pv H1 (i + 1), ct := Pv H1 (i + 1), bk := D.nx } (σ'.set j (some v)) H') (hd : ∀ H1 σ' H', Ex H H1 → Pv H1 ds.length σ' H' → D.nx σ' H') : tFor (iList K tl) (gName j) tu D σ H :=
  h H (Ex.refl H) _ fun a xs H1 e h1 d1 => ⟨a, rfl, ⟨xs, sq_of h1⟩, for_list (Pv H1) (h0 H1 e) (fun i σ' H' _ p => ex_l (hl _ _ _ _ p) (sq_of h1)) (fun i x σ' H' hi p => by
    obtain ⟨d, hd2, hx⟩ : ∃ d, ds[i]? = some d ∧ Dp K H1 x d := by
      have hlt : i < ds.length := by rw [← dpAll_len d1]; exact (List.getElem?_eq_some_iff.mp hi).1
      obtain ⟨v, h2, h3⟩ := dpAll_get d1 (List.getElem?_eq_getElem hlt)
      rw [hi] at h2
      cases h2
      exact ⟨_, List.getElem?_eq_getElem hlt, h3⟩
    exact hs H1 i x d σ' H' e hd2 p (dpx (hl _ _ _ _ p) hx)) (fun σ' H' p => by rw [dpAll_len d1] at p; exact hd H1 σ' H' e p)⟩
theorem q_forD {j : Nat} (h : EvXD K tl σ H ds) (Pv : Hp → Nat → L2.St → Hp → Prop) (h0 : ∀ H1, Ex H H1 → Pv H1 0 σ H1) (hl : ∀ H1 i σ' H', Pv H1 i σ' H' → Ex H1 H')
    (hs : ∀ H1 (i : Nat) v d σ' H', Ex H H1 → ds[i]? = some d → Pv H1 i σ' H' → Dp K H' v d → tu { D with nx := Pv H1 (i + 1), ct := Pv H1 (i + 1), bk := tz D } (σ'.set j (some v)) H') (hd : ∀ H1 σ' H', Ex H H1 → Pv H1 ds.length σ' H' → tz D σ' H') : tSeq (tFor (iList K tl) (gName j) tu) tz D σ H :=
  s_forD (D := { D with nx := tz D }) h Pv h0 hl hs hd
/-- for x in a list of ints that stays -/
theorem s_forI {j : Nat} {ns : List Int} (h : EvD K tl σ H (dl ns)) (Pv : Hp → Nat → L2.St → Hp → Prop) (h0 : ∀ H1, Ex H H1 → Pv H1 0 σ H1) (hl : ∀ H1 i σ' H', Pv H1 i σ' H' → Ex H1 H')
    (hs : ∀ H1 (i : Nat) (x : Int) σ' H', Ex H H1 → ns[i]? = some x → Pv H1 i σ' H' → tu { D with nx := Pv H1 (i + 1), ct := Pv H1 (i + 1), bk := D.nx } (σ'.set j (some (.int x))) H') (hd : ∀ H1 σ' H', Ex H H1 → Pv H1 ns.length σ' H' → D.nx σ' H') : tFor (iList K tl) (gName j) tu D σ H :=
  h H (Ex.refl H) _ fun w H1 e hv => by
    obtain ⟨a, rfl, ha⟩ := dl_dp hv
    refine ⟨a, rfl, ⟨_, ha⟩, for_list (xs := ns.map V.int) (Pv H1) (h0 H1 e) (fun i σ' H' _ p => ex_l (hl _ _ _ _ p) ha) (fun i x σ' H' hi p => ?_) (fun σ' H' p => by rw [List.length_map] at p; exact hd H1 σ' H' e p)⟩
    rw [List.getElem?_map] at hi
    cases hx : ns[i]? with
    | none =>
      rw [hx] at hi
      cases hi
    | some z =>
      rw [hx] at hi
      cases hi
      exact hs H1 i z σ' H' e hx p
theorem q_forI {j : Nat} {ns : List Int} (h : EvD K tl σ H (dl ns)) (Pv : Hp → Nat → L2.St → Hp → Prop) (h0 : ∀ H1, Ex H H1 → Pv H1 0 σ H1) (hl : ∀ H1 i σ' H', Pv H1 i σ' H' → Ex H1 H')
    (hs : ∀ H1 (i : Nat) (x : Int) σ' H', Ex H H1 → ns[i]? = some x → Pv H1 i σ' H' → tu { D with nx := Pv H1 (i + 1), ct := Pv H1 (i + 1), bk := tz D } (σ'.set j (some (.int x))) H') (hd : ∀ H1 σ' H', Ex H H1 → Pv H1 ns.length σ' H' → tz D σ' H') : tSeq (tFor (iList K tl) (gName j) tu) tz D σ H :=
  s_forI (D := { D with nx := tz D }) h Pv h0 hl hs hd
/-- isinstance, built-in types -/
theorem dp_ty {ds : List PyData} (h : Dp K H v (.list ds)) : TyX K H v (.type "list") := by
  cases h with
  | lst a b =>
    rcases a with (a | ⟨o, a⟩) | ⟨o, its, n, a, c, _⟩
    · exact .base (.lst a)
    · exact .base (.frz a)
    · exact .kList a c
theorem ev_isi {a b : String} {r : Bool} (h : Ev te σ H x) (ty : ∀ H1, Ex H H1 → TyX K H1 x (.type a)) (hk : kitB a b = some r) : Ev (tCB (rIsi K) (tCons te (tCons (tC (.ty b)) tNil))) σ H (.bl r) := fun H1 e Q q =>
  h H1 e _ fun H2 e2 => ⟨x, .ty b, .type a, .type b, r, rfl, .ty b, ty H2 (e.trans e2), kit_ty hk, q H2 e2⟩
theorem ev_isiI {i : Int} {b : String} {r : Bool} (h : Ev te σ H (.int i)) (hk : kitB "int" b = some r) : Ev (tCB (rIsi K) (tCons te (tCons (tC (.ty b)) tNil))) σ H (.bl r) := ev_isi h (fun _ _ => .base (.int i)) hk
theorem ev_isiB {i : Bool} {b : String} {r : Bool} (h : Ev te σ H (.bl i)) (hk : kitB "bool" b = some r) : Ev (tCB (rIsi K) (tCons te (tCons (tC (.ty b)) tNil))) σ H (.bl r) := ev_isi h (fun _ _ => .base (.bl i)) hk
theorem ev_isiS {i : PySem.Str} {b : String} {r : Bool} (h : Ev te σ H (.str i)) (hk : kitB "str" b = some r) : Ev (tCB (rIsi K) (tCons te (tCons (tC (.ty b)) tNil))) σ H (.bl r) := ev_isi h (fun _ _ => .base (.str i)) hk
theorem ev_isiL {b : String} {r : Bool} (h : EvD K te σ H (.list ds)) (hk : kitB "list" b = some r) : Ev (tCB (rIsi K) (tCons te (tCons (tC (.ty b)) tNil))) σ H (.bl r) := fun H1 e Q q =>
  h H1 e _ fun x H2 e2 hx => ⟨x, .ty b, .type "list", .type b, r, rfl, .ty b, dp_ty hx, kit_ty hk, q H2 e2⟩
/-! ### a list of lists that grows -/
def LL (H : Hp) (r : Addr) (nss : List (List Int)) : Prop := ∃ as : List Addr, H r = some (.lst (as.map V.ref)) ∧ Paired (fun a ns => a ≠ r ∧ H a = some (.lst (ns.map V.int))) as nss
theorem LL.ex {r : Addr} {nss : List (List Int)} (h : LL H r nss) (e : Ex H H') : LL H' r nss := by
  obtain ⟨as, h1, h2⟩ := h
  exact ⟨as, e _ _ h1, Paired.mapP h2 fun a ns z => ⟨z.1, e _ _ z.2⟩⟩
theorem LL.len {r : Addr} {nss : List (List Int)} {as : List Addr} (h : Paired (fun a ns => a ≠ r ∧ H a = some (.lst (ns.map V.int))) as nss) : as.length = nss.length := Paired.length h
theorem ll_dp {r : Addr} : ∀ {as : List Addr} {nss : List (List Int)}, Paired (fun a (ns : List Int) => a ≠ r ∧ H a = some (.lst (ns.map V.int))) as nss → DpAll K H (as.map V.ref) (nss.map dl)
  | _, _, .nil => .nil
  | _, _, .cons h t => .cons (dp_lst h.2) (ll_dp t)
theorem exd_ll {r : Addr} {nss : List (List Int)} (h : Ev te σ H (.ref r)) (hl : LL H r nss) : EvXD K te σ H (nss.map dl) := by
  obtain ⟨as, h1, h2⟩ := hl
  exact exd_v h h1 (ll_dp h2)
theorem s_appLL {r : Addr} {nss : List (List Int)} {ns : List Int} (hl : LL H r nss) (hr : Ev ta σ H (.ref r)) (h : EvL te σ H (ns.map V.int)) (hz : nss.length < 100000)
    (k : ∀ H1, (∀ H0, Ex H0 H → H0 r = none → Ex H0 H1) → LL H1 r (nss ++ [ns]) → D.nx σ H1) : tDrop (tBM K "list" rAppend ta (tCons te tNil)) D σ H := by
  obtain ⟨as, h1, h2⟩ := hl
  refine s_appL h1 hr h (by rw [List.length_map, LL.len h2]; exact hz) fun p H1 hp e hp1 => k _ (fun H0 e0 hr0 => Ex.mut (e0.trans e) hr0) ⟨as ++ [p], ?_, Paired.snoc (Paired.mapP h2 fun a ms z => ⟨z.1, ?_⟩) ⟨?_, ?_⟩⟩
  · rw [upd_same, List.map_append] <;> rfl
  · rw [upd_ne z.1]
    exact e _ _ z.2
  · exact (ne_of_none h1 hp).symm
  · rw [upd_ne (ne_of_none h1 hp).symm]
    exact hp1
theorem q_appLL {r : Addr} {nss : List (List Int)} {ns : List Int} (hl : LL H r nss) (hr : Ev ta σ H (.ref r)) (h : EvL te σ H (ns.map V.int)) (hz : nss.length < 100000)
    (k : ∀ H1, (∀ H0, Ex H0 H → H0 r = none → Ex H0 H1) → LL H1 r (nss ++ [ns]) → tz D σ H1) : tSeq (tDrop (tBM K "list" rAppend ta (tCons te tNil))) tz D σ H := s_appLL (D := { D with nx := tz D }) hl hr h hz k
/-- r = [one list] -/
theorem q_asgLL1 {i : Nat} {ns : List Int} (h : EvL te σ H (ns.map V.int)) (k : ∀ r H1, H r = none → Ex H H1 → LL H1 r [ns] → tz D (σ.set i (some (.ref r))) H1) : tSeq (tAsg (tLst (tCons te tNil)) (gName i)) tz D σ H :=
  h H (Ex.refl H) _ fun p H1 hp e h1 => ⟨by show 1 ≤ sizeLine; decide, fun r hr => k r _ (fresh_back e hr) (e.trans (Ex.new hr)) ⟨[p], upd_same, .cons ⟨ne_of_none h1 hr, by rw [upd_ne (ne_of_none h1 hr)]; exact h1⟩ .nil⟩⟩
end
/-- the law's promise -/
def sp_law (K : PySem.W.Frag) : Sp := fun vs H Q _ => ∃ (a : Addr) (ns : List Int), vs = [.ref a] ∧ SqL K H a (ns.map V.int) ∧ ns.length ≤ 63 ∧ ∀ H', Q (.bl true) H'
theorem sp_law_go {K : PySem.W.Frag} {H : Hp} {a : Addr} {ns : List Int} (hl : ns.length ≤ 63) (hS : SqL K H a (ns.map V.int)) : sp_law K [.ref a] H (fun v _ => v = .bl true) fun _ _ _ => False := ⟨a, ns, rfl, hS, hl, fun _ => rfl⟩
end RF

namespace RF
/-! ### alike by p -/
def Cg (p a b : Int) : Prop := ∃ k, a = b + p * k
theorem Cg.refl (p a : Int) : Cg p a a := ⟨0, by simp⟩
theorem Cg.of_eq {p a b : Int} (h : a = b) : Cg p a b := h ▸ Cg.refl p a
theorem Cg.symm {p a b : Int} (h : Cg p a b) : Cg p b a := by
  obtain ⟨k, rfl⟩ := h
  exact ⟨-k, by grind⟩
theorem Cg.trans {p a b c : Int} (h : Cg p a b) (h2 : Cg p b c) : Cg p a c := by
  obtain ⟨k, rfl⟩ := h
  obtain ⟨l, rfl⟩ := h2
  exact ⟨k + l, by grind⟩
theorem Cg.add {p a b c d : Int} (h : Cg p a b) (h2 : Cg p c d) : Cg p (a + c) (b + d) := by
  obtain ⟨k, rfl⟩ := h
  obtain ⟨l, rfl⟩ := h2
  exact ⟨k + l, by grind⟩
theorem Cg.sub {p a b c d : Int} (h : Cg p a b) (h2 : Cg p c d) : Cg p (a - c) (b - d) := by
  obtain ⟨k, rfl⟩ := h
  obtain ⟨l, rfl⟩ := h2
  exact ⟨k - l, by grind⟩
theorem Cg.mul {p a b c d : Int} (h : Cg p a b) (h2 : Cg p c d) : Cg p (a * c) (b * d) := by
  obtain ⟨k, rfl⟩ := h
  obtain ⟨l, rfl⟩ := h2
  exact ⟨b * l + k * d + p * k * l, by grind⟩
theorem Cg.mul_left {p b c : Int} (a : Int) (h : Cg p b c) : Cg p (a * b) (a * c) := Cg.mul (Cg.refl p a) h
theorem Cg.emod (p a : Int) : Cg p (a % p) a := ⟨-(a / p), by
  have := Int.emod_add_mul_ediv a p
  grind⟩
theorem Cg.eq {p a b : Int} (h : Cg p a b) : a % p = b % p := by
  obtain ⟨k, rfl⟩ := h
  exact Int.add_mul_emod_self_left b p k
theorem Cg.of_emod {p a b : Int} (h : a % p = b % p) : Cg p a b := by
  have h1 := Cg.emod p a
  rw [h] at h1
  exact h1.symm.trans (Cg.emod p b)
theorem Cg.eq_of {p a b : Int} (h : Cg p a b) (ha : 0 ≤ a ∧ a < p) (hb : 0 ≤ b ∧ b < p) : a = b := by
  have := h.eq
  rw [Int.emod_eq_of_lt ha.1 ha.2, Int.emod_eq_of_lt hb.1 hb.2] at this
  exact this
theorem Cg.sum {p : Int} {f g : Nat → Int} : ∀ {n : Nat}, (∀ i, i < n → Cg p (f i) (g i)) → Cg p (sumN f n) (sumN g n)
  | 0, _ => Cg.refl p 0
  | n + 1, h => Cg.add (Cg.sum fun i hi => h i (Nat.lt_succ_of_lt hi)) (h n (Nat.lt_succ_self n))
/-! ### the row that goes on for ever -/
theorem dotN_sum (row rule : List Int) : ∀ k, dotN row rule k = sumN (fun k => gi rule (k : Int) * gi row ((row.length : Int) - 1 - (k : Int))) k
  | 0 => rfl
  | k + 1 => by
    show dotN row rule k + _ = sumN _ k + _
    rw [dotN_sum row rule k]
theorem gi_append_left {a b : List Int} {i : Nat} (h : i < a.length) : gi (a ++ b) (i : Int) = gi a (i : Int) := by
  rw [gi_nat, gi_nat, List.getD_eq_getElem?_getD, List.getD_eq_getElem?_getD, List.getElem?_append_left h]
theorem gi_append_right {a b : List Int} {i : Nat} (h : a.length ≤ i) : gi (a ++ b) (i : Int) = gi b ((i - a.length : Nat) : Int) := by
  rw [gi_nat, gi_nat, List.getD_eq_getElem?_getD, List.getD_eq_getElem?_getD, List.getElem?_append_right h]
/-- the number at a place: the row begun so gone on with -/
def seqF (p : Int) (rule begin : List Int) (n : Nat) : Int := gi (onBy p rule begin (n + 1)) (n : Int)
theorem onBy_stay (p : Int) (rule row : List Int) (n k : Nat) (h : n < row.length + k) : ∀ j, gi (onBy p rule row (k + j)) (n : Int) = gi (onBy p rule row k) (n : Int)
  | 0 => rfl
  | j + 1 => by
    show gi (onBy p rule row (k + j) ++ [_]) (n : Int) = _
    rw [gi_append_left (by rw [onBy_len]; omega), onBy_stay p rule row n k h j]
theorem onBy_seq {p : Int} {rule row : List Int} {n k : Nat} (h : n < row.length + k) : gi (onBy p rule row k) (n : Int) = seqF p rule row n := by
  unfold seqF
  by_cases h2 : k ≤ n + 1
  · obtain ⟨j, hj⟩ : ∃ j, n + 1 = k + j := ⟨n + 1 - k, by omega⟩
    rw [hj, onBy_stay p rule row n k h j]
  · obtain ⟨j, hj⟩ : ∃ j, k = n + 1 + j := ⟨k - (n + 1), by omega⟩
    rw [hj, onBy_stay p rule row n (n + 1) (by omega) j]
theorem seqF_begin {p : Int} {rule row : List Int} {n : Nat} (h : n < row.length) : seqF p rule row n = gi row (n : Int) := by
  rw [← onBy_seq (k := 0) (by omega)]
  rfl
/-- s goes by the rule, by p -/
def Rec (p : Int) (rule : List Int) (s : Nat → Int) : Prop := ∀ n, Cg p (s (n + rule.length)) (sumN (fun k => gi rule (k : Int) * s (n + rule.length - 1 - k)) rule.length)
theorem nextOf_sum (p : Int) (row rule : List Int) (s : Nat → Int) (m : Nat) (hm : row.length = m) (hl : rule.length ≤ m) (h : ∀ n, n < m → gi row (n : Int) = s n) : nextOf p row rule = sumN (fun k => gi rule (k : Int) * s (m - 1 - k)) rule.length % p := by
  unfold nextOf
  rw [dotN_sum]
  congr 1
  refine sumN_congr fun k hk => ?_
  rw [show (row.length : Int) - 1 - (k : Int) = ((m - 1 - k : Nat) : Int) by omega, h _ (by omega)]
theorem seqF_next {p : Int} {rule row : List Int} {n : Nat} (hl : rule.length ≤ row.length) (h : row.length ≤ n) : seqF p rule row n = sumN (fun k => gi rule (k : Int) * seqF p rule row (n - 1 - k)) rule.length % p := by
  obtain ⟨j, rfl⟩ : ∃ j, n = row.length + j := ⟨n - row.length, by omega⟩
  rw [← onBy_seq (k := j + 1) (by omega)]
  show gi (onBy p rule row j ++ [nextOf p (onBy p rule row j) rule]) ((row.length + j : Nat) : Int) = _
  rw [gi_append_right (by rw [onBy_len]; exact Nat.le_refl _), onBy_len, Nat.sub_self]
  show nextOf p (onBy p rule row j) rule = _
  exact nextOf_sum p _ rule _ _ (onBy_len p rule row j) (by omega) fun m hm => onBy_seq hm
theorem seqF_rec {p : Int} {rule begin : List Int} (hl : begin.length = rule.length) : Rec p rule (seqF p rule begin) := fun n => by
  rw [seqF_next (n := n + rule.length) (by omega) (by omega)]
  exact Cg.emod p _
theorem seqF_nums {p : Int} (hp : 0 < p) {rule begin : List Int} (hb : Nums p begin) (n : Nat) : 0 ≤ seqF p rule begin n ∧ seqF p rule begin n < p := by
  unfold seqF
  exact gi_nums (onBy_nums hp hb _) (by omega) (by rw [onBy_len]; omega)
/-- two rows by one rule that begin alike are alike -/
theorem rec_unique {p : Int} {rule : List Int} {s t : Nat → Int} (hs : Rec p rule s) (ht : Rec p rule t) (h0 : ∀ n, n < rule.length → Cg p (s n) (t n)) : ∀ n, Cg p (s n) (t n) := by
  intro n
  induction n using Nat.strongRecOn with
  | ind n ih =>
    by_cases h : n < rule.length
    · exact h0 n h
    · obtain ⟨m, rfl⟩ : ∃ m, n = m + rule.length := ⟨n - rule.length, by omega⟩
      refine (hs m).trans (Cg.trans ?_ (ht m).symm)
      exact Cg.sum fun k hk => Cg.mul_left _ (ih _ (by omega))
theorem rec_shift {p : Int} {rule : List Int} {s : Nat → Int} (hs : Rec p rule s) (d : Nat) : Rec p rule (fun n => s (n + d)) := fun n => by
  have h := hs (n + d)
  rw [show n + d + rule.length = n + rule.length + d by omega] at h
  refine h.trans (Cg.of_eq (sumN_congr fun k hk => ?_))
  rw [show n + rule.length + d - 1 - k = n + rule.length - 1 - k + d by omega]
/-! ### mixtures of places -/
def val (s : Nat → Int) (m : List Int) (n : Nat) : Int := sumN (fun k => gi m (k : Int) * s (n + k)) m.length
theorem val_more {s : Nat → Int} {m : List Int} {n N : Nat} (h : m.length ≤ N) : val s m n = sumN (fun k => gi m (k : Int) * s (n + k)) N :=
  (sumN_more h fun i h1 _ => by rw [gi_out h1, Int.zero_mul]).symm
theorem sumN_one {f : Nat → Int} {i y : Nat} (hi : i < y) (h : ∀ k, k < y → k ≠ i → f k = 0) : sumN f y = f i := by
  induction y with
  | zero => omega
  | succ y ih =>
    show sumN f y + f y = f i
    by_cases e : i = y
    · subst e
      rw [sumN_zero fun k hk => h k (by omega) (by omega)]
      omega
    · rw [ih (by omega) fun k hk => h k (by omega), h y (by omega) (fun z => e z.symm)]
      omega
theorem gi_set {m : List Int} {i k : Nat} {y : Int} (hi : i < m.length) : gi (m.set i y) (k : Int) = if k = i then y else gi m (k : Int) := by
  by_cases hk : k < m.length
  · rw [gi_lt (by rw [List.length_set]; exact hk), List.getElem_set, gi_lt hk]
    by_cases e : i = k
    · rw [if_pos e, if_pos e.symm]
    · rw [if_neg e, if_neg (fun z : k = i => e z.symm)]
  · rw [gi_out (by rw [List.length_set]; omega), gi_out (by omega), if_neg (by omega)]
theorem val_set (s : Nat → Int) {m : List Int} {i : Nat} (y : Int) (n : Nat) (hi : i < m.length) : val s (m.set i y) n = val s m n + (y - gi m (i : Int)) * s (n + i) := by
  unfold val
  rw [List.length_set]
  have h : sumN (fun k => gi (m.set i y) (k : Int) * s (n + k) - gi m (k : Int) * s (n + k)) m.length = (y - gi m (i : Int)) * s (n + i) := by
    rw [sumN_one hi]
    · rw [gi_set hi, if_pos rfl]
      grind
    · intro k hk hki
      rw [gi_set hi, if_neg hki]
      omega
  rw [sumN_sub] at h
  omega
theorem val_snoc (s : Nat → Int) (m : List Int) (y : Int) (n : Nat) : val s (m ++ [y]) n = val s m n + y * s (n + m.length) := by
  unfold val
  rw [List.length_append]
  show sumN _ m.length + gi (m ++ [y]) (m.length : Int) * _ = _
  rw [gi_append_right (Nat.le_refl _), Nat.sub_self]
  congr 1
  exact sumN_congr fun k hk => by rw [gi_append_left hk]
theorem val_cons (s : Nat → Int) (m : List Int) (n : Nat) : val s ([0] ++ m) n = val s m (n + 1) := by
  unfold val
  rw [List.length_append, Nat.add_comm, show ([0] : List Int).length = 1 from rfl, sumN_head, gi_append_left (by show 0 < 1; decide)]
  show (0 : Int) * _ + _ = _
  rw [Int.zero_mul, Int.zero_add]
  refine sumN_congr fun k hk => ?_
  rw [gi_append_right (by show 1 ≤ k + 1; omega), show k + 1 - ([0] : List Int).length = k from rfl, show n + (k + 1) = n + 1 + k by omega]
theorem gi_snoc (ns : List Int) (y : Int) : gi (ns ++ [y]) (ns.length : Int) = y := by
  rw [gi_append_right (Nat.le_refl _), Nat.sub_self]
  rfl
theorem Nums.set {p : Int} {ns : List Int} {i : Nat} {y : Int} (h : Nums p ns) (hy : 0 ≤ y ∧ y < p) : Nums p (ns.set i y) := fun x hx => by
  rcases List.mem_or_eq_of_mem_set hx with hx | rfl
  · exact h x hx
  · exact hy
/-- a mixture that says the same of all rows by the rule -/
def Low (p : Int) (rule sm res : List Int) : Prop := ∀ s, Rec p rule s → ∀ n, Cg p (val s res n) (val s sm n)
theorem Low.refl (p : Int) (rule sm : List Int) : Low p rule sm sm := fun s _ n => Cg.refl p _
theorem Low.trans {p : Int} {rule a b c : List Int} (h : Low p rule a b) (h2 : Low p rule b c) : Low p rule a c := fun s hs n => (h2 s hs n).trans (h s hs n)
/-- one turn of the lowering: the last one taken away, and told by those ahead of it -/
def LowT (p : Int) (rule init : List Int) (top : Int) (j : Nat) (l : List Int) : Prop :=
  l.length = init.length ∧ Nums p l ∧ ∀ s n, Cg p (val s l n) (val s init n + sumN (fun k => top * gi rule (k : Int) * s (n + (init.length - 1 - k))) j)
theorem lowT_0 {p : Int} {rule init : List Int} (top : Int) (h : Nums p init) : LowT p rule init top 0 init := ⟨rfl, h, fun s n => Cg.of_eq (by show _ = _ + 0; omega)⟩
theorem lowT_s {p : Int} (hp : 0 < p) {rule init l : List Int} {top : Int} {j : Nat} (h : LowT p rule init top j l) (hj : j < init.length) :
    LowT p rule init top (j + 1) (l.set (init.length - 1 - j) ((gi l ((init.length - 1 - j : Nat) : Int) + top * gi rule (j : Int)) % p)) := by
  obtain ⟨h1, h2, h3⟩ := h
  refine ⟨by rw [List.length_set, h1], h2.set ⟨Int.emod_nonneg _ (by omega), Int.emod_lt_of_pos _ hp⟩, fun s n => ?_⟩
  rw [val_set s _ n (by omega)]
  show Cg p _ (val s init n + (sumN _ j + top * gi rule (j : Int) * s (n + (init.length - 1 - j))))
  rw [← Int.add_assoc]
  refine (h3 s n).add ?_
  refine Cg.mul ?_ (Cg.refl p _)
  have := (Cg.emod p (gi l ((init.length - 1 - j : Nat) : Int) + top * gi rule (j : Int))).sub (Cg.refl p (gi l ((init.length - 1 - j : Nat) : Int)))
  refine this.trans (Cg.of_eq (by omega))
theorem lowT_end {p : Int} {rule init l : List Int} {top : Int} (h : LowT p rule init top rule.length l) (hl : rule.length ≤ init.length) : Low p rule (init ++ [top]) l := by
  obtain ⟨h1, h2, h3⟩ := h
  intro s hs n
  refine (h3 s n).trans ?_
  rw [val_snoc]
  refine (Cg.refl p _).add ?_
  have e : sumN (fun k => top * gi rule (k : Int) * s (n + (init.length - 1 - k))) rule.length = top * sumN (fun k => gi rule (k : Int) * s (n + init.length - 1 - k)) rule.length := by
    rw [← sumN_mul]
    refine sumN_congr fun k hk => ?_
    rw [Int.mul_assoc, show n + (init.length - 1 - k) = n + init.length - 1 - k by omega]
  rw [e]
  refine Cg.mul_left _ ?_
  have h := hs (n + init.length - rule.length)
  rw [show n + init.length - rule.length + rule.length = n + init.length by omega] at h
  exact h.symm
/-! ### products of mixtures -/
def TimS (one other : List Int) (k j : Nat) (s : Nat → Int) (n : Nat) : Int := sumN (fun k => gi one (k : Int) * val s other (n + k)) k + sumN (fun j => gi one (k : Int) * gi other (j : Int) * s (n + k + j)) j
def TimT (p : Int) (one other : List Int) (k j : Nat) (l : List Int) : Prop := l.length = one.length + other.length - 1 ∧ Nums p l ∧ ∀ s n, Cg p (val s l n) (TimS one other k j s n)
theorem val_zeros (s : Nat → Int) (N n : Nat) : val s (tab N fun _ => 0) n = 0 := sumN_zero fun i hi => by
  rw [tab_len] at hi
  rw [tab_gi hi, Int.zero_mul]
theorem timT_0 {p : Int} (hp : 0 < p) (one other : List Int) : TimT p one other 0 0 (tab (one.length + other.length - 1) fun _ => 0) :=
  ⟨tab_len _ _, tab_nums fun i _ => ⟨Int.le_refl 0, hp⟩, fun s n => Cg.of_eq (val_zeros s _ n)⟩
theorem timT_s {p : Int} (hp : 0 < p) {one other l : List Int} {k j : Nat} (h : TimT p one other k j l) (hk : k < one.length) (hj : j < other.length) :
    TimT p one other k (j + 1) (l.set (k + j) ((gi l ((k + j : Nat) : Int) + gi one (k : Int) * gi other (j : Int)) % p)) := by
  obtain ⟨h1, h2, h3⟩ := h
  refine ⟨by rw [List.length_set, h1], h2.set ⟨Int.emod_nonneg _ (by omega), Int.emod_lt_of_pos _ hp⟩, fun s n => ?_⟩
  rw [val_set s _ n (by omega)]
  show Cg p _ (sumN _ k + (sumN _ j + gi one (k : Int) * gi other (j : Int) * s (n + k + j)))
  rw [← Int.add_assoc, Nat.add_assoc n k j]
  refine (h3 s n).add ?_
  refine Cg.mul ?_ (Cg.refl p _)
  have := (Cg.emod p (gi l ((k + j : Nat) : Int) + gi one (k : Int) * gi other (j : Int))).sub (Cg.refl p (gi l ((k + j : Nat) : Int)))
  refine this.trans (Cg.of_eq (by omega))
theorem timT_row {p : Int} {one other l : List Int} {k : Nat} (h : TimT p one other k other.length l) : TimT p one other (k + 1) 0 l := by
  obtain ⟨h1, h2, h3⟩ := h
  refine ⟨h1, h2, fun s n => (h3 s n).trans (Cg.of_eq ?_)⟩
  unfold TimS
  show _ = sumN _ k + gi one (k : Int) * val s other (n + k) + 0
  unfold val
  rw [← sumN_mul, Int.add_zero]
  congr 1
  exact sumN_congr fun j hj => Int.mul_assoc _ _ _
/-- what times tells: each one shifted by the other -/
def Tim (p : Int) (rule one other res : List Int) : Prop := ∀ s, Rec p rule s → ∀ n, Cg p (val s res n) (sumN (fun k => gi one (k : Int) * val s other (n + k)) one.length)
theorem timT_end {p : Int} {rule one other l : List Int} (h : TimT p one other one.length 0 l) : Tim p rule one other l := fun s _ n => (h.2.2 s n).trans (Cg.of_eq (by
  unfold TimS
  show _ + 0 = _
  omega))
theorem Tim.low {p : Int} {rule one other l res : List Int} (h : Tim p rule one other l) (h2 : Low p rule l res) : Tim p rule one other res := fun s hs n => (h2 s hs n).trans (h s hs n)
/-- a mixture that is a far place -/
def Mix (p : Int) (rule : List Int) (place : Nat) (m : List Int) : Prop := ∀ s, Rec p rule s → ∀ n, Cg p (val s m n) (s (n + place))
theorem mix_0 {p : Int} {rule m : List Int} (h : Low p rule [1] m) : Mix p rule 0 m := fun s hs n => (h s hs n).trans (Cg.of_eq (by
  show 0 + 1 * s (n + 0) = s (n + 0)
  omega))
theorem mix_2 {p : Int} {rule h m : List Int} {q : Nat} (hh : Mix p rule q h) (ht : Tim p rule h h m) : Mix p rule (2 * q) m := fun s hs n => by
  refine (ht s hs n).trans ?_
  have a : Cg p (sumN (fun k => gi h (k : Int) * val s h (n + k)) h.length) (sumN (fun k => gi h (k : Int) * s (n + q + k)) h.length) := Cg.sum fun k hk => Cg.mul_left _ ((hh s hs (n + k)).trans (Cg.of_eq (by rw [show n + k + q = n + q + k by omega])))
  refine a.trans ((hh s hs (n + q)).trans (Cg.of_eq ?_))
  rw [show n + q + q = n + 2 * q by omega]
theorem mix_1 {p : Int} {rule m res : List Int} {q : Nat} (h : Mix p rule q m) (hl : Low p rule ([0] ++ m) res) : Mix p rule (q + 1) res := fun s hs n => by
  refine (hl s hs n).trans ?_
  rw [val_cons]
  refine (h s hs (n + 1)).trans (Cg.of_eq ?_)
  rw [show n + 1 + q = n + (q + 1) by omega]
/-- the number at the far place -/
theorem mix_far {p : Int} (hp : 0 < p) {rule begin m : List Int} {place : Nat} (hb : begin.length = rule.length) (hn : Nums p begin) (hm : m.length ≤ rule.length) (h : Mix p rule place m) : sumN (fun k => gi m (k : Int) * gi begin (k : Int)) m.length % p = seqF p rule begin place := by
  have a := h _ (seqF_rec hb) 0
  have e : val (seqF p rule begin) m 0 = sumN (fun k => gi m (k : Int) * gi begin (k : Int)) m.length := sumN_congr fun k hk => by
    rw [Nat.zero_add, seqF_begin (by omega)]
  rw [e, Nat.zero_add] at a
  have b := seqF_nums hp hn (rule := rule) place
  rw [a.eq, Int.emod_eq_of_lt b.1 b.2]
theorem big97 : ((100000000000000000000000000000 : Int) < ((2 ^ 97 : Nat) : Int)) := by decide +kernel
end RF

namespace RF
/-! ### an inverse by p -/
def invN (p x : Int) : Nat → Int
  | 0 => 1
  | k + 1 => invN p x k * x % p
def invP (p x : Int) : Int := invN p x (p - 2).toNat
theorem invP_all : (primes.all fun p => (List.range p.toNat).all fun x => x == 0 || (invP p (x : Int) * (x : Int)) % p == 1) = true := by decide +kernel
theorem primes_inv {p : Int} (hp : p ∈ primes) {x : Int} (h0 : 0 < x) (h1 : x < p) : Cg p (invP p x * x) 1 := by
  have h := (List.all_eq_true.mp ((List.all_eq_true.mp invP_all) p hp)) x.toNat (List.mem_range.mpr (by omega))
  have hp2 := primes_le p hp
  rw [Int.toNat_of_nonneg (by omega), Bool.or_eq_true] at h
  rcases h with h | h
  · have := eq_of_beq h
    omega
  · refine Cg.of_emod ?_
    rw [eq_of_beq h, Int.emod_eq_of_lt (by omega) (by omega)]
theorem invN_bounds {p x : Int} (hp : 2 ≤ p) : ∀ k, 0 ≤ invN p x k ∧ invN p x k < p
  | 0 => ⟨by show (0 : Int) ≤ 1; omega, by show (1 : Int) < p; omega⟩
  | _ + 1 => ⟨Int.emod_nonneg _ (by omega), Int.emod_lt_of_pos _ (by omega)⟩
theorem invP_bounds {p : Int} (x : Int) (hp : 2 ≤ p) : 0 ≤ invP p x ∧ invP p x < p := invN_bounds hp _
/-! ### what a test makes of a row up to a place -/
theorem sumN_split (f : Nat → Int) (n : Nat) : ∀ m, sumN f (n + m) = sumN f n + sumN (fun i => f (n + i)) m
  | 0 => by
    show sumN f n = sumN f n + 0
    omega
  | m + 1 => by
    show sumN f (n + m) + f (n + m) = sumN f n + (sumN (fun i => f (n + i)) m + f (n + m))
    rw [sumN_split f n m]
    omega
def flt (row t : List Int) (n : Nat) : Int := sumN (fun k => gi t (k : Int) * gi row ((n - k : Nat) : Int)) (n + 1)
theorem flt_len {row t : List Int} {n m : Nat} (h : t.length ≤ m) (h2 : m ≤ n + 1) : flt row t n = sumN (fun k => gi t (k : Int) * gi row ((n - k : Nat) : Int)) m :=
  sumN_more h2 fun i h1 _ => by rw [gi_out (by omega), Int.zero_mul]
theorem flt_row {row row2 t : List Int} {n : Nat} (h : ∀ i, i ≤ n → gi row (i : Int) = gi row2 (i : Int)) : flt row t n = flt row2 t n := sumN_congr fun k hk => by rw [h _ (by omega)]
/-- a test shifted -/
def shl (t : List Int) (d k : Nat) : Int := if d ≤ k then gi t ((k - d : Nat) : Int) else 0
theorem flt_shl (row t : List Int) (d n : Nat) : sumN (fun k => shl t d k * gi row ((n - k : Nat) : Int)) (n + 1) = if d ≤ n then flt row t (n - d) else 0 := by
  by_cases h : d ≤ n
  · rw [if_pos h, show n + 1 = d + (n - d + 1) by omega, sumN_split, sumN_zero fun i hi => by
      unfold shl
      rw [if_neg (by omega), Int.zero_mul], Int.zero_add]
    unfold flt
    refine sumN_congr fun i hi => ?_
    unfold shl
    rw [if_pos (by omega), show d + i - d = i by omega, show n - (d + i) = n - d - i by omega]
  · rw [if_neg h]
    exact sumN_zero fun i hi => by
      unfold shl
      rw [if_neg (by omega), Int.zero_mul]
/-- a test less an older one, scaled and shifted -/
def mendL (p : Int) (test older : List Int) (scale : Int) (d : Nat) : List Int := tab (max test.length (older.length + d)) fun k => (gi test (k : Int) - scale * shl older d k) % p
theorem mendL_gi (p : Int) (test older : List Int) (scale : Int) (d k : Nat) : Cg p (gi (mendL p test older scale d) (k : Int)) (gi test (k : Int) - scale * shl older d k) := by
  unfold mendL
  by_cases h : k < max test.length (older.length + d)
  · rw [tab_gi h]
    exact Cg.emod p _
  · rw [gi_out (by rw [tab_len]; omega), gi_out (by omega)]
    unfold shl
    split
    · rw [gi_out (by omega)]
      exact Cg.of_eq (by omega)
    · exact Cg.of_eq (by omega)
theorem mendL_flt (p : Int) (row test older : List Int) (scale : Int) (d n : Nat) : Cg p (flt row (mendL p test older scale d) n) (flt row test n - scale * (if d ≤ n then flt row older (n - d) else 0)) := by
  rw [← flt_shl, ← sumN_mul]
  unfold flt
  rw [← sumN_sub]
  refine Cg.sum fun k hk => ?_
  have h := (mendL_gi p test older scale d k).mul (Cg.refl p (gi row ((n - k : Nat) : Int)))
  refine h.trans (Cg.of_eq ?_)
  rw [Int.sub_mul, Int.mul_assoc]
theorem mendL_nums {p : Int} (hp : 0 < p) (test older : List Int) (scale : Int) (d : Nat) : Nums p (mendL p test older scale d) := tab_nums fun i _ => ⟨Int.emod_nonneg _ (by omega), Int.emod_lt_of_pos _ hp⟩
/-! ### the shortest rule's making -/
structure BM where
  test : List Int
  older : List Int
  past : Int
  shift : Nat
  long : Nat
  jump : Option (List Int × Nat × Int)
def bm0 : BM := ⟨[1], [1], 1, 1, 0, none⟩
def hereOf (p : Int) (row : List Int) (n : Nat) (s : BM) : Int := flt row s.test n % p
def freshOf (p : Int) (row : List Int) (n : Nat) (s : BM) : List Int := mendL p s.test s.older (hereOf p row n s * invP p s.past) s.shift
def bmS (p : Int) (row : List Int) (n : Nat) (s : BM) : BM :=
  if hereOf p row n s = 0 then ⟨s.test, s.older, s.past, s.shift + 1, s.long, s.jump⟩
  else if 2 * s.long ≤ n then ⟨freshOf p row n s, s.test, hereOf p row n s, 1, n + 1 - s.long, some (s.test, n, hereOf p row n s)⟩
  else ⟨freshOf p row n s, s.older, s.past, s.shift + 1, s.long, s.jump⟩
def bmN (p : Int) (row : List Int) : Nat → BM
  | 0 => bm0
  | n + 1 => bmS p row n (bmN p row n)
structure Jmp (p : Int) (row : List Int) (n long : Nat) (t : List Int) (m : Nat) (h : Int) : Prop where
  nt : Nums p t
  h0 : 0 < h
  h1 : h < p
  hf : Cg p (flt row t m) h
  l1 : 1 ≤ long
  lm : long ≤ m + 1
  tl : t.length + long ≤ m + 2
  mn : m < n
  kt : ∀ i, m + 1 ≤ i + long → i < m → Cg p (flt row t i) 0
structure Inv (p : Int) (row : List Int) (n : Nat) (s : BM) : Prop where
  nt : Nums p s.test
  no : Nums p s.older
  t0 : gi s.test ((0 : Nat) : Int) = 1
  t1 : 1 ≤ s.test.length
  o1 : 1 ≤ s.older.length
  lt : s.test.length ≤ s.long + 1
  lo : s.older.length + s.shift + s.long ≤ n + 2
  ln : s.long ≤ n
  kt : ∀ j, s.long ≤ j → j < n → Cg p (flt row s.test j) 0
  sh : 1 ≤ s.shift
  sn : s.shift ≤ n + 1
  p0 : 0 < s.past
  p1 : s.past < p
  ko : s.shift ≤ n → Cg p (flt row s.older (n - s.shift)) s.past ∧ ∀ i, n + 1 ≤ i + s.long + s.shift → i + s.shift < n → Cg p (flt row s.older i) 0
  k0 : s.shift = n + 1 → s.long = 0
  jn : s.jump = none → s.long = 0
  js : ∀ t m h, s.jump = some (t, m, h) → Jmp p row n s.long t m h
theorem Jmp.more {p : Int} {row : List Int} {n long : Nat} {t : List Int} {m : Nat} {h : Int} (J : Jmp p row n long t m h) : Jmp p row (n + 1) long t m h := ⟨J.nt, J.h0, J.h1, J.hf, J.l1, J.lm, J.tl, Nat.lt_succ_of_lt J.mn, J.kt⟩
theorem inv_0 {p : Int} (hp : 2 ≤ p) (row : List Int) : Inv p row 0 bm0 where
  nt := Nums.one (by omega) (by omega)
  no := Nums.one (by omega) (by omega)
  t0 := rfl
  t1 := Nat.le_refl 1
  o1 := Nat.le_refl 1
  lt := Nat.le_refl 1
  lo := Nat.le_refl 2
  ln := Nat.le_refl 0
  kt := fun j _ h => absurd h (Nat.not_lt_zero j)
  sh := Nat.le_refl 1
  sn := Nat.le_refl 1
  p0 := by show (0 : Int) < 1; omega
  p1 := by show (1 : Int) < p; omega
  ko := fun h => absurd h (by decide)
  k0 := fun _ => rfl
  jn := fun _ => rfl
  js := fun t m h e => by cases e
theorem here_cg (p : Int) (row : List Int) (n : Nat) (s : BM) : Cg p (hereOf p row n s) (flt row s.test n) := Cg.emod p _
/-- the fresh test kills -/
theorem fresh_kills {p : Int} (hp : p ∈ primes) {row : List Int} {n : Nat} {s : BM} (I : Inv p row n s) {j : Nat} (h1 : s.long ≤ j) (h2 : n + 1 ≤ j + s.long) (h3 : j ≤ n) : Cg p (flt row (freshOf p row n s) j) 0 := by
  refine (mendL_flt p row s.test s.older _ s.shift j).trans ?_
  have hsn := I.sn
  have hk0 := I.k0
  have hln := I.ln
  by_cases e : j = n
  · subst e
    have hs : s.shift ≤ j := by
      by_cases z : s.shift = j + 1
      · have := hk0 z
        omega
      · omega
    rw [if_pos hs]
    have a := (I.ko hs).1
    have b := (Cg.refl p (hereOf p row j s * invP p s.past)).mul a
    have c : Cg p (hereOf p row j s * invP p s.past * s.past) (hereOf p row j s) := by
      rw [Int.mul_assoc]
      refine (Cg.mul_left _ (primes_inv hp I.p0 I.p1)).trans (Cg.of_eq (by omega))
    refine ((Cg.refl p _).sub ((b.trans c).trans (here_cg p row j s))).trans (Cg.of_eq (by omega))
  · have a := I.kt j h1 (by omega)
    refine (a.sub (Cg.mul_left _ (c := 0) ?_)).trans (Cg.of_eq (by omega))
    by_cases z : s.shift ≤ j
    · rw [if_pos z]
      exact (I.ko (by omega)).2 _ (by omega) (by omega)
    · rw [if_neg z]
      exact Cg.refl p 0
theorem fresh_0 {p : Int} (hp : p ∈ primes) {row : List Int} {n : Nat} {s : BM} (I : Inv p row n s) : gi (freshOf p row n s) ((0 : Nat) : Int) = 1 := by
  have hp2 := primes_le p hp
  have h1 := I.sh
  have h2 := I.t1
  unfold freshOf mendL
  rw [tab_gi (by omega)]
  unfold shl
  rw [if_neg (by omega), I.t0, Int.mul_zero, Int.sub_zero, Int.emod_eq_of_lt (by omega) (by omega)]
theorem fresh_len (p : Int) (row : List Int) (n : Nat) (s : BM) : (freshOf p row n s).length = max s.test.length (s.older.length + s.shift) := tab_len _ _
theorem inv_s {p : Int} (hp : p ∈ primes) {row : List Int} {n : Nat} {s : BM} (I : Inv p row n s) : Inv p row (n + 1) (bmS p row n s) := by
  have hp2 := primes_le p hp
  have hlo := I.lo
  have hln := I.ln
  have hlt := I.lt
  have hsn := I.sn
  have hsh := I.sh
  have ht1 := I.t1
  have ho1 := I.o1
  have hb : 0 ≤ hereOf p row n s ∧ hereOf p row n s < p := ⟨Int.emod_nonneg _ (by omega), Int.emod_lt_of_pos _ (by omega)⟩
  unfold bmS
  by_cases h : hereOf p row n s = 0
  · rw [if_pos h]
    refine ⟨I.nt, I.no, I.t0, I.t1, I.o1, I.lt, by show s.older.length + (s.shift + 1) + s.long ≤ _; omega, by show s.long ≤ _; omega, fun j h1 h2 => ?_, by show 1 ≤ s.shift + 1; omega, by show s.shift + 1 ≤ _; omega, I.p0, I.p1, fun h1 => ?_, fun h1 => I.k0 (by have h1 : s.shift + 1 = n + 1 + 1 := h1; omega), I.jn, fun t m h e => (I.js t m h e).more⟩
    · by_cases e : j = n
      · subst e
        refine ((here_cg p row j s).symm).trans (Cg.of_eq h)
      · exact I.kt j h1 (by omega)
    · have h1 : s.shift + 1 ≤ n + 1 := h1
      show Cg p (flt row s.older (n + 1 - (s.shift + 1))) s.past ∧ _
      rw [show n + 1 - (s.shift + 1) = n - s.shift by omega]
      refine ⟨(I.ko (by omega)).1, fun i h2 h3 => ?_⟩
      have h2 : n + 1 + 1 ≤ i + s.long + (s.shift + 1) := h2
      have h3 : i + (s.shift + 1) < n + 1 := h3
      exact (I.ko (by omega)).2 i (by omega) (by omega)
  · rw [if_neg h]
    have hl := fresh_len p row n s
    have hn := mendL_nums (p := p) (by omega) s.test s.older (hereOf p row n s * invP p s.past) s.shift
    by_cases h2 : 2 * s.long ≤ n
    · rw [if_pos h2]
      refine ⟨hn, I.nt, fresh_0 hp I, by show 1 ≤ (freshOf p row n s).length; omega, I.t1, by show (freshOf p row n s).length ≤ n + 1 - s.long + 1; omega, by show s.test.length + 1 + (n + 1 - s.long) ≤ _; omega, by show n + 1 - s.long ≤ _; omega, fun j h3 h4 => ?_, Nat.le_refl 1, by show 1 ≤ _; omega, by show 0 < hereOf p row n s; omega, hb.2, fun _ => ?_, fun h3 => ?_, fun h3 => (by cases h3), fun t m hh e => ?_⟩
      · have h3 : n + 1 - s.long ≤ j := h3
        exact fresh_kills hp I (by omega) (by omega) (by omega)
      · show Cg p (flt row s.test (n + 1 - 1)) (hereOf p row n s) ∧ _
        refine ⟨(here_cg p row n s).symm, fun i h3 h4 => ?_⟩
        have h3 : n + 1 + 1 ≤ i + (n + 1 - s.long) + 1 := h3
        have h4 : i + 1 < n + 1 := h4
        exact I.kt i (by omega) (by omega)
      · have h3 : 1 = n + 1 + 1 := h3
        omega
      · cases e
        refine ⟨I.nt, by omega, hb.2, (here_cg p row n s).symm, by show 1 ≤ n + 1 - s.long; omega, by show n + 1 - s.long ≤ _; omega, by show s.test.length + (n + 1 - s.long) ≤ _; omega, by omega, fun i h3 h4 => ?_⟩
        have h3 : n + 1 ≤ i + (n + 1 - s.long) := h3
        exact I.kt i (by omega) (by omega)
    · rw [if_neg h2]
      refine ⟨hn, I.no, fresh_0 hp I, by show 1 ≤ (freshOf p row n s).length; omega, I.o1, by show (freshOf p row n s).length ≤ s.long + 1; omega, by show s.older.length + (s.shift + 1) + s.long ≤ _; omega, by show s.long ≤ _; omega, fun j h3 h4 => ?_, by show 1 ≤ s.shift + 1; omega, by show s.shift + 1 ≤ _; omega, I.p0, I.p1, fun h1 => ?_, fun h1 => I.k0 (by have h1 : s.shift + 1 = n + 1 + 1 := h1; omega), I.jn, fun t m h e => (I.js t m h e).more⟩
      · have h3 : s.long ≤ j := h3
        exact fresh_kills hp I (by omega) (by omega) (by omega)
      · have h1 : s.shift + 1 ≤ n + 1 := h1
        show Cg p (flt row s.older (n + 1 - (s.shift + 1))) s.past ∧ _
        rw [show n + 1 - (s.shift + 1) = n - s.shift by omega]
        refine ⟨(I.ko (by omega)).1, fun i h2 h3 => ?_⟩
        have h2 : n + 1 + 1 ≤ i + s.long + (s.shift + 1) := h2
        have h3 : i + (s.shift + 1) < n + 1 := h3
        exact (I.ko (by omega)).2 i (by omega) (by omega)
theorem bm_inv {p : Int} (hp : p ∈ primes) (row : List Int) : ∀ n, Inv p row n (bmN p row n)
  | 0 => inv_0 (primes_le p hp).1 row
  | n + 1 => inv_s hp (bm_inv hp row n)
/-! ### rows that go by a rule -/
def Goes (p : Int) (row rule : List Int) : Prop := ∀ n, rule.length ≤ n → n < row.length → Cg p (gi row (n : Int)) (sumN (fun k => gi rule (k : Int) * gi row ((n - 1 - k : Nat) : Int)) rule.length)
theorem gi_take {row : List Int} {m n : Nat} (h : n < m) : gi (row.take m) (n : Int) = gi row (n : Int) := by
  rw [gi_nat, gi_nat, List.getD_eq_getElem?_getD, List.getD_eq_getElem?_getD, List.getElem?_take_of_lt h]
theorem next_take (p : Int) (row rule : List Int) {m : Nat} (h : m ≤ row.length) (hl : rule.length ≤ m) : nextOf p (row.take m) rule = sumN (fun k => gi rule (k : Int) * gi row ((m - 1 - k : Nat) : Int)) rule.length % p :=
  nextOf_sum p _ rule (fun n => gi row (n : Int)) m (by rw [List.length_take]; omega) hl fun n hn => gi_take hn
theorem goes_B {p : Int} {row rule : List Int} (hp : 0 < p) (hr : Nums p row) : Goes p row rule ↔ goesB p row rule = true := by
  constructor
  · intro h
    refine goesB_yes fun i hi => ?_
    rw [next_take p row rule (by omega) (by omega)]
    have a := h (rule.length + i) (by omega) (by omega)
    have b := gi_nums hr (i := ((rule.length + i : Nat) : Int)) (by omega) (by omega)
    have c := a.eq
    rw [Int.emod_eq_of_lt b.1 b.2] at c
    rw [← c]
    congr 1
  · intro h n h1 h2
    unfold goesB at h
    have a := of_decide_eq_true ((List.all_eq_true.mp h) (n - rule.length) (List.mem_range.mpr (by omega)))
    rw [show rule.length + (n - rule.length) = n by omega, next_take p row rule (by omega) h1, show (rule.length : Int) + ((n - rule.length : Nat) : Int) = (n : Int) by omega] at a
    rw [a]
    exact Cg.emod p _
/-- the rule that a test tells -/
def ruleOf (p : Int) (s : BM) : List Int := tab s.long fun k => (0 - gi s.test ((k + 1 : Nat) : Int)) % p
theorem ruleOf_len (p : Int) (s : BM) : (ruleOf p s).length = s.long := tab_len _ _
theorem ruleOf_nums {p : Int} (hp : 0 < p) (s : BM) : Nums p (ruleOf p s) := tab_nums fun i _ => ⟨Int.emod_nonneg _ (by omega), Int.emod_lt_of_pos _ hp⟩
theorem rule_flt {p : Int} {row : List Int} {n : Nat} {s : BM} (I : Inv p row n s) {m : Nat} (h : s.long ≤ m) : Cg p (flt row s.test m) (gi row (m : Int) - sumN (fun k => gi (ruleOf p s) (k : Int) * gi row ((m - 1 - k : Nat) : Int)) s.long) := by
  have e : flt row s.test m = gi row (m : Int) + sumN (fun k => gi s.test ((k + 1 : Nat) : Int) * gi row ((m - 1 - k : Nat) : Int)) s.long := by
    rw [flt_len (m := s.long + 1) I.lt (by omega), sumN_head, I.t0, Int.one_mul]
    have z : sumN (fun i => gi s.test ((i + 1 : Nat) : Int) * gi row ((m - (i + 1) : Nat) : Int)) s.long = sumN (fun k => gi s.test ((k + 1 : Nat) : Int) * gi row ((m - 1 - k : Nat) : Int)) s.long := sumN_congr fun k hk => by rw [show m - (k + 1) = m - 1 - k by omega]
    rw [z]
    rfl
  rw [e]
  have a : Cg p (sumN (fun k => gi (ruleOf p s) (k : Int) * gi row ((m - 1 - k : Nat) : Int)) s.long) (sumN (fun k => (-1) * (gi s.test ((k + 1 : Nat) : Int) * gi row ((m - 1 - k : Nat) : Int))) s.long) := Cg.sum fun k hk => by
    unfold ruleOf
    rw [tab_gi hk]
    refine ((Cg.emod p _).mul (Cg.refl p _)).trans (Cg.of_eq (by grind))
  rw [sumN_mul] at a
  have b := ((Cg.refl p (gi row (m : Int))).sub a).symm
  exact Cg.trans (Cg.of_eq (by omega)) b
theorem rule_goes {p : Int} {row : List Int} {s : BM} (I : Inv p row row.length s) : Goes p row (ruleOf p s) := fun n h1 h2 => by
  rw [ruleOf_len] at h1 ⊢
  have a := (rule_flt I h1).symm.trans (I.kt n h1 h2)
  have b := a.add (Cg.refl p (sumN (fun k => gi (ruleOf p s) (k : Int) * gi row ((n - 1 - k : Nat) : Int)) s.long))
  exact (Cg.of_eq (by omega)).trans (b.trans (Cg.of_eq (by omega)))
/-- no shorter one goes -/
theorem rule_least {p : Int} (hp : 2 ≤ p) {row : List Int} {s : BM} (I : Inv p row row.length s) {rule : List Int} (hg : Goes p row rule) : s.long ≤ rule.length := by
  cases hj : s.jump with
  | none =>
    have := I.jn hj
    omega
  | some z =>
    obtain ⟨t, m, h⟩ := z
    have J := I.js t m h hj
    have j1 := J.l1
    have j2 := J.lm
    have j3 := J.tl
    have j4 := J.mn
    refine Nat.le_of_not_lt fun hlt => ?_
    have a1 : Cg p (flt row t m) (sumN (fun i => gi rule (i : Int) * flt row t (m - 1 - i)) rule.length) := by
      rw [flt_len (m := t.length) (Nat.le_refl _) (by omega)]
      have b : Cg p (sumN (fun k => gi t (k : Int) * gi row ((m - k : Nat) : Int)) t.length) (sumN (fun k => gi t (k : Int) * sumN (fun i => gi rule (i : Int) * gi row ((m - k - 1 - i : Nat) : Int)) rule.length) t.length) := Cg.sum fun k hk => Cg.mul_left _ (hg (m - k) (by omega) (by omega))
      refine b.trans (Cg.of_eq ?_)
      have c : sumN (fun k => gi t (k : Int) * sumN (fun i => gi rule (i : Int) * gi row ((m - k - 1 - i : Nat) : Int)) rule.length) t.length = sumN (fun k => sumN (fun i => gi t (k : Int) * (gi rule (i : Int) * gi row ((m - k - 1 - i : Nat) : Int))) rule.length) t.length := sumN_congr fun k hk => (sumN_mul _ _ _).symm
      rw [c, sumN_swap]
      refine sumN_congr fun i hi => ?_
      rw [flt_len (m := t.length) (Nat.le_refl _) (by omega), ← sumN_mul]
      refine sumN_congr fun k hk => ?_
      rw [show m - k - 1 - i = m - 1 - i - k by omega]
      grind
    have a2 : Cg p (sumN (fun i => gi rule (i : Int) * flt row t (m - 1 - i)) rule.length) (sumN (fun i => gi rule (i : Int) * 0) rule.length) := Cg.sum fun i hi => Cg.mul_left _ (J.kt _ (by omega) (by omega))
    have a3 : sumN (fun i => gi rule (i : Int) * 0) rule.length = 0 := sumN_zero fun i _ => by rw [Int.mul_zero]
    rw [a3] at a2
    have a4 := J.hf.symm.trans (a1.trans a2)
    have a5 := a4.eq_of ⟨by have := J.h0; omega, J.h1⟩ ⟨Int.le_refl 0, by omega⟩
    have := J.h0
    omega
/-- a beginning's making is the beginning of the making -/
theorem bm_take (p : Int) (row : List Int) (m : Nat) : ∀ n, n ≤ m → bmN p (row.take m) n = bmN p row n
  | 0, _ => rfl
  | n + 1, h => by
    show bmS p (row.take m) n (bmN p (row.take m) n) = bmS p row n (bmN p row n)
    rw [bm_take p row m n (by omega)]
    have e : hereOf p (row.take m) n (bmN p row n) = hereOf p row n (bmN p row n) := by
      unfold hereOf
      rw [flt_row fun i hi => gi_take (by omega)]
    unfold bmS freshOf
    rw [e]
/-- how the lengths rise -/
theorem bm_rise (p : Int) (row : List Int) (n : Nat) : (bmN p row (n + 1)).long = if hereOf p row n (bmN p row n) = 0 then (bmN p row n).long else max (bmN p row n).long (n + 1 - (bmN p row n).long) := by
  show (bmS p row n (bmN p row n)).long = _
  unfold bmS
  by_cases h : hereOf p row n (bmN p row n) = 0
  · rw [if_pos h, if_pos h]
  · rw [if_neg h, if_neg h]
    by_cases h2 : 2 * (bmN p row n).long ≤ n
    · rw [if_pos h2]
      show n + 1 - (bmN p row n).long = _
      omega
    · rw [if_neg h2]
      show (bmN p row n).long = _
      omega
theorem bm_tells {p : Int} {row : List Int} {n : Nat} (hp : p ∈ primes) (hr : Nums p row) (h : n < row.length) : (hereOf p row n (bmN p row n) = 0) ↔ gi row (n : Int) = nextOf p (row.take n) (ruleOf p (bmN p row n)) := by
  have I := bm_inv hp row n
  have hp2 := primes_le p hp
  have hl := I.ln
  have b := gi_nums hr (i := (n : Int)) (by omega) (by omega)
  rw [next_take p row _ (by omega) (by rw [ruleOf_len]; exact hl), ruleOf_len]
  have a := (here_cg p row n (bmN p row n)).trans (rule_flt I hl)
  constructor
  · intro e
    rw [e] at a
    have c := (a.add (Cg.refl p (sumN (fun k => gi (ruleOf p (bmN p row n)) (k : Int) * gi row ((n - 1 - k : Nat) : Int)) (bmN p row n).long))).symm
    have d := ((Cg.of_eq (by omega)).trans (c.trans (Cg.of_eq (by omega))) : Cg p (gi row (n : Int)) (sumN (fun k => gi (ruleOf p (bmN p row n)) (k : Int) * gi row ((n - 1 - k : Nat) : Int)) (bmN p row n).long)).eq
    rw [Int.emod_eq_of_lt b.1 b.2] at d
    exact d
  · intro e
    have c : Cg p (gi row (n : Int)) (sumN (fun k => gi (ruleOf p (bmN p row n)) (k : Int) * gi row ((n - 1 - k : Nat) : Int)) (bmN p row n).long) := by
      rw [e]
      exact Cg.emod p _
    have d := a.trans ((c.sub (Cg.refl p _)).trans (Cg.of_eq (Int.sub_self _)))
    exact d.eq_of ⟨Int.emod_nonneg _ (by omega), Int.emod_lt_of_pos _ (by omega)⟩ ⟨Int.le_refl 0, by omega⟩
end RF
namespace RF
def longsL (p : Int) (row : List Int) (n : Nat) : List Int := tab (n + 1) fun i => ((bmN p row i).long : Int)
theorem longs_len (p : Int) (row : List Int) (n : Nat) : (longsL p row n).length = n + 1 := tab_len _ _
theorem longs_succ (p : Int) (row : List Int) (n : Nat) : longsL p row (n + 1) = longsL p row n ++ [((bmN p row (n + 1)).long : Int)] := tab_succ _ _
theorem longs_gi (p : Int) (row : List Int) {n i : Nat} (h : i ≤ n) : gi (longsL p row n) (i : Int) = ((bmN p row i).long : Int) := tab_gi (by omega)
theorem longs_last (p : Int) (row : List Int) (n : Nat) : gi (longsL p row n) (((longsL p row n).length : Int) - 1) = ((bmN p row n).long : Int) := by
  rw [longs_len, show (((n + 1 : Nat) : Int) - 1) = (n : Int) by omega]
  exact longs_gi p row (Nat.le_refl n)
theorem sum_filter (f : Nat → Bool) (v : Nat → Int) : ∀ n, (((List.range n).filter f).map v).sum = sumN (fun k => if f k = true then v k else 0) n
  | 0 => rfl
  | n + 1 => by
    rw [List.range_succ, List.filter_append, List.map_append, List.sum_append, sum_filter f v n]
    show _ = sumN _ n + (if f n = true then v n else 0)
    cases h : f n with
    | true => simp [h]
    | false => simp [h]
theorem flt_filter (row t : List Int) (m : Nat) : (((List.range t.length).filter fun (k : Nat) => decide ((k : Int) ≤ (m : Int))).map fun (k : Nat) => gi t (k : Int) * gi row ((m : Int) - (k : Int))).sum = flt row t m := by
  rw [sum_filter]
  have a : sumN (fun k => if (decide ((k : Int) ≤ (m : Int))) = true then gi t (k : Int) * gi row ((m : Int) - (k : Int)) else 0) (max t.length (m + 1)) = sumN (fun k => if (decide ((k : Int) ≤ (m : Int))) = true then gi t (k : Int) * gi row ((m : Int) - (k : Int)) else 0) t.length := sumN_more (by omega) fun i h _ => by
    rw [gi_out h, Int.zero_mul]
    split <;> rfl
  have b : sumN (fun k => if (decide ((k : Int) ≤ (m : Int))) = true then gi t (k : Int) * gi row ((m : Int) - (k : Int)) else 0) (max t.length (m + 1)) = sumN (fun k => if (decide ((k : Int) ≤ (m : Int))) = true then gi t (k : Int) * gi row ((m : Int) - (k : Int)) else 0) (m + 1) := sumN_more (by omega) fun i h _ => if_neg (by rw [decide_eq_true_eq]; omega)
  rw [← a, b]
  unfold flt
  refine sumN_congr fun k hk => ?_
  rw [if_pos (by rw [decide_eq_true_eq]; omega), show (m : Int) - (k : Int) = ((m - k : Nat) : Int) by omega]
end RF

namespace RF
/-! ### weights -/
def papF (t : List Int) (m : Nat) (scale p : Int) (k i : Nat) : Int := if i ≤ m ∧ m - i < k then gi t ((m - i : Nat) : Int) * scale % p else 0
def paperL (p : Int) (N : Nat) (t : List Int) (m : Nat) (scale : Int) : List Int := tab N (papF t m scale p t.length)
theorem paper_nums {p : Int} (hp : 0 < p) (N : Nat) (t : List Int) (m : Nat) (scale : Int) : Nums p (paperL p N t m scale) := tab_nums fun i _ => by
  unfold papF
  split
  · exact ⟨Int.emod_nonneg _ (by omega), Int.emod_lt_of_pos _ hp⟩
  · exact ⟨Int.le_refl 0, hp⟩
theorem paper_sum {p : Int} {row t : List Int} {m lo j N : Nat} (scale : Int) (h1 : t.length + lo ≤ m + 1) (h2 : j ≤ lo) (h3 : m < N) :
    Cg p (sumN (fun i => gi (paperL p N t m scale) ((lo + i : Nat) : Int) * gi row ((lo + i - j : Nat) : Int)) (N - lo)) (scale * flt row t (m - j)) := by
  have e0 : sumN (fun i => gi (paperL p N t m scale) ((lo + i : Nat) : Int) * gi row ((lo + i - j : Nat) : Int)) (N - lo) = sumN (fun i => gi (paperL p N t m scale) ((lo + i : Nat) : Int) * gi row ((lo + i - j : Nat) : Int)) (m + 1 - lo) := sumN_more (by omega) fun i a b => by
    unfold paperL
    rw [tab_gi (by omega)]
    unfold papF
    rw [if_neg (by omega), Int.zero_mul]
  rw [e0, sumN_rev, flt_len (m := m + 1 - lo) (by omega) (by omega), ← sumN_mul]
  refine Cg.sum fun i hi => ?_
  rw [show lo + (m + 1 - lo - 1 - i) = m - i by omega, show m - j - i = m - i - j by omega]
  unfold paperL
  rw [tab_gi (by omega)]
  unfold papF
  by_cases z : i < t.length
  · rw [if_pos (by omega), show m - (m - i) = i by omega]
    refine ((Cg.emod p _).mul (Cg.refl p _)).trans (Cg.of_eq (by grind))
  · rw [if_neg (by omega), gi_out (ns := t) (by omega)]
    exact Cg.of_eq (by grind)
theorem paper_low {p : Int} {t : List Int} {m N i : Nat} (scale : Int) (h : i < N) (h1 : t.length + i ≤ m) : gi (paperL p N t m scale) (i : Int) = 0 := by
  unfold paperL
  rw [tab_gi h]
  unfold papF
  rw [if_neg (by omega)]
/-! ### rows that go on alike -/
theorem next_all (p : Int) (row rule : List Int) (hl : rule.length ≤ row.length) : nextOf p row rule = sumN (fun k => gi rule (k : Int) * gi row ((row.length - 1 - k : Nat) : Int)) rule.length % p :=
  nextOf_sum p row rule (fun n => gi row (n : Int)) row.length rfl hl fun n _ => rfl
theorem Goes.take {p : Int} {row rule : List Int} (h : Goes p row rule) (m : Nat) : Goes p (row.take m) rule := fun n h1 h2 => by
  rw [List.length_take] at h2
  rw [gi_take (by omega)]
  refine (h n h1 (by omega)).trans (Cg.of_eq (sumN_congr fun k hk => ?_))
  rw [gi_take (by omega)]
theorem Goes.snoc {p : Int} {row rule : List Int} (h : Goes p row rule) (hl : rule.length ≤ row.length) {y : Int} (hy : Cg p y (sumN (fun k => gi rule (k : Int) * gi row ((row.length - 1 - k : Nat) : Int)) rule.length)) : Goes p (row ++ [y]) rule := fun n h1 h2 => by
  rw [List.length_append, List.length_singleton] at h2
  have e : sumN (fun k => gi rule (k : Int) * gi (row ++ [y]) ((n - 1 - k : Nat) : Int)) rule.length = sumN (fun k => gi rule (k : Int) * gi row ((n - 1 - k : Nat) : Int)) rule.length := sumN_congr fun k hk => by rw [gi_append_left (by omega)]
  rw [e]
  by_cases z : n < row.length
  · rw [gi_append_left z]
    exact h n h1 z
  · have e2 : n = row.length := by omega
    subst e2
    rw [gi_snoc]
    exact hy
theorem Goes.next {p : Int} {row rule : List Int} (h : Goes p row rule) (hl : rule.length ≤ row.length) : Goes p (row ++ [nextOf p row rule]) rule := h.snoc hl (by
  rw [next_all p row rule hl]
  exact Cg.emod p _)
theorem Goes.onBy {p : Int} {row rule : List Int} (h : Goes p row rule) (hl : rule.length ≤ row.length) : ∀ k, Goes p (onBy p rule row k) rule
  | 0 => h
  | k + 1 => (Goes.onBy h hl k).next (by rw [onBy_len]; omega)
theorem goes_short {p : Int} {row rule : List Int} (h : row.length ≤ rule.length) : Goes p row rule := fun n h1 h2 => by omega
theorem goes_double {p : Int} {row c d : List Int} (hc : Goes p row c) (hd : Goes p row d) (hl : c.length + d.length ≤ row.length) :
    Cg p (sumN (fun k => gi c (k : Int) * gi row ((row.length - 1 - k : Nat) : Int)) c.length) (sumN (fun k => gi c (k : Int) * sumN (fun i => gi d (i : Int) * gi row ((row.length - 2 - k - i : Nat) : Int)) d.length) c.length) := Cg.sum fun k hk => Cg.mul_left _ (by
  have h := hd (row.length - 1 - k) (by omega) (by omega)
  refine h.trans (Cg.of_eq (sumN_congr fun i hi => ?_))
  rw [show row.length - 1 - k - 1 - i = row.length - 2 - k - i by omega])
theorem goes_alike {p : Int} {row c d : List Int} (hc : Goes p row c) (hd : Goes p row d) (hl : c.length + d.length ≤ row.length) : nextOf p row c = nextOf p row d := by
  rw [next_all p row c (by omega), next_all p row d (by omega)]
  refine Cg.eq (Cg.trans (goes_double hc hd hl) (Cg.trans (Cg.of_eq ?_) (goes_double hd hc (by omega)).symm))
  have e1 : sumN (fun k => gi c (k : Int) * sumN (fun i => gi d (i : Int) * gi row ((row.length - 2 - k - i : Nat) : Int)) d.length) c.length = sumN (fun k => sumN (fun i => gi c (k : Int) * (gi d (i : Int) * gi row ((row.length - 2 - k - i : Nat) : Int))) d.length) c.length := sumN_congr fun k hk => (sumN_mul _ _ _).symm
  have e2 : sumN (fun k => gi d (k : Int) * sumN (fun i => gi c (i : Int) * gi row ((row.length - 2 - k - i : Nat) : Int)) c.length) d.length = sumN (fun k => sumN (fun i => gi d (k : Int) * (gi c (i : Int) * gi row ((row.length - 2 - k - i : Nat) : Int))) c.length) d.length := sumN_congr fun k hk => (sumN_mul _ _ _).symm
  rw [e1, e2, sumN_swap]
  refine sumN_congr fun k hk => sumN_congr fun i hi => ?_
  rw [show row.length - 2 - i - k = row.length - 2 - k - i by omega]
  grind
theorem onBy_alike {p : Int} {row c d : List Int} (hc : Goes p row c) (hd : Goes p row d) (hl : c.length + d.length ≤ row.length) : ∀ k, onBy p c row k = onBy p d row k
  | 0 => rfl
  | k + 1 => by
    have h := onBy_alike hc hd hl k
    show onBy p c row k ++ [nextOf p (onBy p c row k) c] = onBy p d row k ++ [nextOf p (onBy p d row k) d]
    have a := hc.onBy (by omega) k
    have b := hd.onBy (by omega) k
    rw [← h] at b ⊢
    rw [goes_alike a b (by rw [onBy_len]; omega)]
/-! ### sums of rows go by the joined rule -/
theorem sumN_tri (F : Nat → Nat → Int) : ∀ M, sumN (fun i => sumN (fun j => F i j) i) M = sumN (fun j => sumN (fun k => F (j + k + 1) j) (M - 1 - j)) M
  | 0 => rfl
  | M + 1 => by
    show sumN (fun i => sumN (fun j => F i j) i) M + sumN (fun j => F M j) M = sumN (fun j => sumN (fun k => F (j + k + 1) j) (M + 1 - 1 - j)) M + sumN (fun k => F (M + k + 1) M) (M + 1 - 1 - M)
    rw [sumN_tri F M, show M + 1 - 1 - M = 0 by omega]
    show _ = _ + 0
    rw [Int.add_zero, ← sumN_add]
    refine sumN_congr fun j hj => ?_
    rw [show M + 1 - 1 - j = (M - 1 - j) + 1 by omega]
    show _ = sumN _ (M - 1 - j) + F (j + (M - 1 - j) + 1) j
    rw [show j + (M - 1 - j) + 1 = M by omega]
theorem conv_sum (c d : List Int) (g : Nat → Int) {M : Nat} (hM : M = c.length + d.length) : sumN (fun i => conv c d i * g i) M = sumN (fun j => gi c (j : Int) * sumN (fun k => gi d (k : Int) * g (j + k + 1)) d.length) c.length := by
  have e1 : sumN (fun i => conv c d i * g i) M = sumN (fun i => sumN (fun j => gi c (j : Int) * gi d ((i - 1 - j : Nat) : Int) * g i) i) M := sumN_congr fun i hi => by
    unfold conv
    rw [Int.mul_comm, ← sumN_mul]
    exact sumN_congr fun j hj => by grind
  rw [e1, sumN_tri fun i j => gi c (j : Int) * gi d ((i - 1 - j : Nat) : Int) * g i]
  have e2 : sumN (fun j => sumN (fun k => gi c (j : Int) * gi d ((j + k + 1 - 1 - j : Nat) : Int) * g (j + k + 1)) (M - 1 - j)) M = sumN (fun j => sumN (fun k => gi c (j : Int) * gi d ((j + k + 1 - 1 - j : Nat) : Int) * g (j + k + 1)) (M - 1 - j)) c.length := sumN_more (by omega) fun j h1 _ => sumN_zero fun k _ => by rw [gi_out h1, Int.zero_mul, Int.zero_mul]
  rw [e2]
  refine sumN_congr fun j hj => ?_
  rw [← sumN_mul]
  have e3 : sumN (fun k => gi c (j : Int) * gi d ((j + k + 1 - 1 - j : Nat) : Int) * g (j + k + 1)) (M - 1 - j) = sumN (fun k => gi c (j : Int) * gi d ((j + k + 1 - 1 - j : Nat) : Int) * g (j + k + 1)) d.length := sumN_more (by omega) fun k h1 _ => by rw [show j + k + 1 - 1 - j = k by omega, gi_out (ns := d) h1, Int.mul_zero, Int.zero_mul]
  rw [e3]
  refine sumN_congr fun k hk => ?_
  rw [show j + k + 1 - 1 - j = k by omega, Int.mul_assoc]
theorem conv_comm_fun (c d : List Int) {g : Nat → Int} {M : Nat} : sumN (fun i => conv c d i * g i) M = sumN (fun i => conv d c i * g i) M := sumN_congr fun i _ => by rw [conv_comm]
theorem sum_out {c : List Int} {M : Nat} (g : Nat → Int) (h : c.length ≤ M) : sumN (fun i => gi c (i : Int) * g i) M = sumN (fun i => gi c (i : Int) * g i) c.length := sumN_more h fun i h1 _ => by rw [gi_out h1, Int.zero_mul]
theorem Goes.joined {p : Int} {row c : List Int} (h : Goes p row c) (d : List Int) : Goes p row (joinedL p c d) := fun n h1 h2 => by
  have hl : (joinedL p c d).length = c.length + d.length := tab_len _ _
  rw [hl] at h1 ⊢
  have a : Cg p (sumN (fun k => gi (joinedL p c d) (k : Int) * gi row ((n - 1 - k : Nat) : Int)) (c.length + d.length)) (sumN (fun k => (gi c (k : Int) * gi row ((n - 1 - k : Nat) : Int) + gi d (k : Int) * gi row ((n - 1 - k : Nat) : Int)) - conv c d k * gi row ((n - 1 - k : Nat) : Int)) (c.length + d.length)) := Cg.sum fun k hk => by
    unfold joinedL
    rw [tab_gi hk]
    refine ((Cg.emod p _).mul (Cg.refl p _)).trans (Cg.of_eq (by grind))
  rw [sumN_sub, sumN_add, sum_out (c := c) (fun k => gi row ((n - 1 - k : Nat) : Int)) (by omega), sum_out (c := d) (fun k => gi row ((n - 1 - k : Nat) : Int)) (by omega), conv_comm_fun c d, conv_sum d c (fun k => gi row ((n - 1 - k : Nat) : Int)) (by omega)] at a
  have b : Cg p (sumN (fun j => gi d (j : Int) * sumN (fun k => gi c (k : Int) * gi row ((n - 1 - (j + k + 1) : Nat) : Int)) c.length) d.length) (sumN (fun j => gi d (j : Int) * gi row ((n - 1 - j : Nat) : Int)) d.length) := Cg.sum fun j hj => Cg.mul_left _ (by
    have z := h (n - 1 - j) (by omega) (by omega)
    refine (z.trans (Cg.of_eq (sumN_congr fun k hk => ?_))).symm
    rw [show n - 1 - j - 1 - k = n - 1 - (j + k + 1) by omega])
  have e := h n (by omega) h2
  have f := a.trans ((e.symm.add (Cg.refl p (sumN (fun j => gi d (j : Int) * gi row ((n - 1 - j : Nat) : Int)) d.length))).sub b)
  exact (f.trans (Cg.of_eq (by omega))).symm
theorem Goes.sum {p : Int} {a b r c : List Int} (ha : Goes p a c) (hb : Goes p b c) (l1 : r.length ≤ a.length) (l2 : r.length ≤ b.length) (h : ∀ n, n < r.length → Cg p (gi r (n : Int)) (gi a (n : Int) + gi b (n : Int))) : Goes p r c := fun n h1 h2 => by
  refine (h n h2).trans (((ha n h1 (by omega)).add (hb n h1 (by omega))).trans ?_)
  rw [← sumN_add]
  refine Cg.symm (Cg.sum fun k hk => ?_)
  exact (Cg.mul_left _ (h (n - 1 - k) (by omega))).trans (Cg.of_eq (by grind))
theorem Goes.scale {p : Int} {a r c : List Int} (z : Int) (ha : Goes p a c) (l1 : r.length ≤ a.length) (h : ∀ n, n < r.length → Cg p (gi r (n : Int)) (gi a (n : Int) * z)) : Goes p r c := fun n h1 h2 => by
  refine (h n h2).trans (((ha n h1 (by omega)).mul (Cg.refl p z)).trans ?_)
  rw [Int.mul_comm, ← sumN_mul]
  refine Cg.symm (Cg.sum fun k hk => ?_)
  exact (Cg.mul_left _ (h (n - 1 - k) (by omega))).trans (Cg.of_eq (by grind))
end RF
namespace RF
theorem longs_take (p : Int) (row : List Int) {m : Nat} (h : m ≤ row.length) : longsL p (row.take m) m = (longsL p row row.length).take (m + 1) := by
  refine gi_ext (by rw [longs_len, List.length_take, longs_len]; omega) fun j hj => ?_
  rw [List.length_take, longs_len] at hj
  rw [gi_take (by omega), longs_gi p row (by omega), longs_gi p _ (by omega), bm_take p row m j (by omega)]
end RF

namespace RF
/-! ### rules turned -/
def lastI (ns : List Int) : Int := gi ns ((ns.length : Int) - 1)
theorem lastI_gi {ns : List Int} (h : 1 ≤ ns.length) : lastI ns = gi ns ((ns.length - 1 : Nat) : Int) := by
  unfold lastI
  rw [show (ns.length : Int) - 1 = ((ns.length - 1 : Nat) : Int) by omega]
def turnL (p : Int) (rule : List Int) : List Int := if rule.length = 0 then [] else ((rule.take (rule.length - 1)).reverse.map fun x => (0 - x * invP p (lastI rule)) % p) ++ [invP p (lastI rule)]
theorem turn_len (p : Int) (rule : List Int) : (turnL p rule).length = rule.length := by
  unfold turnL
  split
  · rw [List.length_nil]
    omega
  · rw [List.length_append, List.length_map, List.length_reverse, List.length_take, List.length_singleton]
    omega
theorem turn_gi {p : Int} {rule : List Int} {i : Nat} (h : i + 1 < rule.length) : gi (turnL p rule) (i : Int) = (0 - gi rule ((rule.length - 2 - i : Nat) : Int) * invP p (lastI rule)) % p := by
  unfold turnL
  rw [if_neg (by omega), gi_append_left (by rw [List.length_map, List.length_reverse, List.length_take]; omega), gi_lt (by rw [List.length_map, List.length_reverse, List.length_take]; omega), List.getElem_map, List.getElem_reverse, List.getElem_take, gi_lt (by omega)]
  congr 3
  congr 1
  rw [List.length_take]
  omega
theorem turn_last {p : Int} {rule : List Int} (h : 1 ≤ rule.length) : gi (turnL p rule) ((rule.length - 1 : Nat) : Int) = invP p (lastI rule) := by
  unfold turnL
  rw [if_neg (by omega), gi_append_right (by rw [List.length_map, List.length_reverse, List.length_take]; omega)]
  rw [List.length_map, List.length_reverse, List.length_take, show rule.length - 1 - min (rule.length - 1) rule.length = 0 by omega]
  rfl
theorem turn_nums {p : Int} (hp : 2 ≤ p) (rule : List Int) : Nums p (turnL p rule) := by
  unfold turnL
  split
  · exact Nums.nil
  · refine Nums.append (fun x hx => ?_) (Nums.one (invP_bounds _ hp).1 (invP_bounds _ hp).2)
    rw [List.mem_map] at hx
    obtain ⟨y, _, rfl⟩ := hx
    exact ⟨Int.emod_nonneg _ (by omega), Int.emod_lt_of_pos _ (by omega)⟩
theorem rev_gi {row : List Int} {m : Nat} (h : m < row.length) : gi row.reverse (m : Int) = gi row ((row.length - 1 - m : Nat) : Int) := by
  rw [gi_lt (by rw [List.length_reverse]; exact h), List.getElem_reverse, gi_lt (by omega)]
/-- the turned one at a place -/
theorem turn_sum {p : Int} {row rule : List Int} {n : Nat} (h1 : 1 ≤ rule.length) (h2 : rule.length ≤ n) (h3 : n < row.length) :
    Cg p (sumN (fun k => gi (turnL p rule) (k : Int) * gi row.reverse ((row.length - 1 - n + rule.length - 1 - k : Nat) : Int)) rule.length) (invP p (lastI rule) * (gi row (n : Int) - sumN (fun k => gi rule (k : Int) * gi row ((n - 1 - k : Nat) : Int)) (rule.length - 1))) := by
  obtain ⟨l, hl⟩ : ∃ l, rule.length = l + 1 := ⟨rule.length - 1, by omega⟩
  rw [hl, show l + 1 - 1 = l by omega]
  show Cg p (sumN _ l + gi (turnL p rule) (l : Int) * gi row.reverse ((row.length - 1 - n + (l + 1) - 1 - l : Nat) : Int)) _
  have e1 : gi (turnL p rule) (l : Int) = invP p (lastI rule) := by
    have := turn_last (p := p) h1
    rw [hl, show l + 1 - 1 = l by omega] at this
    exact this
  rw [e1, show row.length - 1 - n + (l + 1) - 1 - l = row.length - 1 - n by omega, rev_gi (by omega), show row.length - 1 - (row.length - 1 - n) = n by omega]
  have a : Cg p (sumN (fun k => gi (turnL p rule) (k : Int) * gi row.reverse ((row.length - 1 - n + (l + 1) - 1 - k : Nat) : Int)) l) (sumN (fun k => (-invP p (lastI rule)) * (gi rule ((l - 1 - k : Nat) : Int) * gi row ((n - 1 - (l - 1 - k) : Nat) : Int))) l) := Cg.sum fun k hk => by
    rw [turn_gi (by omega), rev_gi (by omega), hl, show row.length - 1 - (row.length - 1 - n + (l + 1) - 1 - k) = n - 1 - (l - 1 - k) by omega, show l + 1 - 2 - k = l - 1 - k by omega]
    refine ((Cg.emod p _).mul (Cg.refl p _)).trans (Cg.of_eq (by grind))
  rw [sumN_mul, ← sumN_rev fun k => gi rule (k : Int) * gi row ((n - 1 - k : Nat) : Int)] at a
  refine (a.add (Cg.refl p _)).trans (Cg.of_eq (by grind))
theorem turn_inv {p : Int} (hp : p ∈ primes) {rule : List Int} (hn : Nums p rule) (h1 : 1 ≤ rule.length) (h0 : lastI rule ≠ 0) : Cg p (invP p (lastI rule) * lastI rule) 1 := by
  have b := gi_nums hn (i := ((rule.length - 1 : Nat) : Int)) (by omega) (by omega)
  rw [← lastI_gi h1] at b
  exact primes_inv hp (by omega) b.2
theorem turn_goes {p : Int} (hp : p ∈ primes) {row rule : List Int} (hn : Nums p rule) (h0 : rule.length = 0 ∨ lastI rule ≠ 0) : Goes p row.reverse (turnL p rule) ↔ Goes p row rule := by
  by_cases hz : rule.length = 0
  · have e1 : turnL p rule = [] := by
      unfold turnL
      rw [if_pos hz]
    have e2 : rule = [] := List.length_eq_zero_iff.mp hz
    subst e2
    rw [e1]
    constructor
    · intro h n _ h2
      have := h (row.length - 1 - n) (Nat.zero_le _) (by rw [List.length_reverse]; omega)
      rw [rev_gi (by omega), show row.length - 1 - (row.length - 1 - n) = n by omega] at this
      exact this
    · intro h n _ h2
      rw [List.length_reverse] at h2
      rw [rev_gi h2]
      exact h _ (Nat.zero_le _) (by omega)
  have h1 : 1 ≤ rule.length := by omega
  have hlast : lastI rule ≠ 0 := h0.resolve_left hz
  have hi := turn_inv hp hn h1 hlast
  -- the rule at a place
  have ruleAt : ∀ n, rule.length ≤ n → sumN (fun k => gi rule (k : Int) * gi row ((n - 1 - k : Nat) : Int)) rule.length = sumN (fun k => gi rule (k : Int) * gi row ((n - 1 - k : Nat) : Int)) (rule.length - 1) + lastI rule * gi row ((n - rule.length : Nat) : Int) := fun n hn => by
    obtain ⟨l, hl⟩ : ∃ l, rule.length = l + 1 := ⟨rule.length - 1, by omega⟩
    rw [lastI_gi h1, hl, show l + 1 - 1 = l by omega]
    show sumN _ l + _ = _
    rw [show n - (l + 1) = n - 1 - l by omega]
  constructor
  · intro h n h2 h3
    have a := h (row.length - 1 - n + rule.length) (by rw [turn_len]; omega) (by rw [List.length_reverse]; omega)
    rw [turn_len, rev_gi (by omega), show row.length - 1 - (row.length - 1 - n + rule.length) = n - rule.length by omega] at a
    have b := a.trans (turn_sum h1 h2 h3)
    rw [ruleAt n h2]
    have c := Cg.mul_left (lastI rule) b
    have d : Cg p (lastI rule * (invP p (lastI rule) * (gi row (n : Int) - sumN (fun k => gi rule (k : Int) * gi row ((n - 1 - k : Nat) : Int)) (rule.length - 1)))) (gi row (n : Int) - sumN (fun k => gi rule (k : Int) * gi row ((n - 1 - k : Nat) : Int)) (rule.length - 1)) := by
      have z := hi.mul (Cg.refl p (gi row (n : Int) - sumN (fun k => gi rule (k : Int) * gi row ((n - 1 - k : Nat) : Int)) (rule.length - 1)))
      exact (Cg.of_eq (by grind)).trans (z.trans (Cg.of_eq (by omega)))
    have e := (Cg.refl p (sumN (fun k => gi rule (k : Int) * gi row ((n - 1 - k : Nat) : Int)) (rule.length - 1))).add (c.trans d)
    exact (e.trans (Cg.of_eq (by omega))).symm
  · intro h m h2 h3
    rw [turn_len] at h2 ⊢
    rw [List.length_reverse] at h3
    obtain ⟨n, hn1, hn2, hn3⟩ : ∃ n, m = row.length - 1 - n + rule.length ∧ rule.length ≤ n ∧ n < row.length := ⟨row.length - 1 - (m - rule.length), by omega, by omega, by omega⟩
    subst hn1
    rw [rev_gi h3, show row.length - 1 - (row.length - 1 - n + rule.length) = n - rule.length by omega]
    refine Cg.trans ?_ (turn_sum h1 hn2 hn3).symm
    have a := h n hn2 hn3
    rw [ruleAt n hn2] at a
    have b := Cg.mul_left (invP p (lastI rule)) (a.sub (Cg.refl p (sumN (fun k => gi rule (k : Int) * gi row ((n - 1 - k : Nat) : Int)) (rule.length - 1))))
    have c := hi.mul (Cg.refl p (gi row ((n - rule.length : Nat) : Int)))
    refine Cg.symm (b.trans ((Cg.of_eq ?_).trans (c.trans (Cg.of_eq ?_))))
    · grind
    · omega
theorem turn_turn {p : Int} (hp : p ∈ primes) {rule : List Int} (hn : Nums p rule) (h0 : rule.length = 0 ∨ lastI rule ≠ 0) : turnL p (turnL p rule) = rule := by
  have hpl := primes_le p hp
  by_cases hz : rule.length = 0
  · have e2 : rule = [] := List.length_eq_zero_iff.mp hz
    subst e2
    rfl
  have h1 : 1 ≤ rule.length := by omega
  have hlast : lastI rule ≠ 0 := h0.resolve_left hz
  have hi := turn_inv hp hn h1 hlast
  have tl := turn_len p rule
  have tn := turn_nums hpl.1 rule
  have sl : lastI (turnL p rule) = invP p (lastI rule) := by
    rw [lastI_gi (by omega), tl]
    exact turn_last h1
  have ib := invP_bounds (p := p) (lastI rule) hpl.1
  have s0 : lastI (turnL p rule) ≠ 0 := fun z => by
    rw [sl] at z
    rw [z, Int.zero_mul] at hi
    have := hi.eq_of ⟨Int.le_refl 0, by omega⟩ ⟨by omega, by omega⟩
    omega
  have hi2 := turn_inv hp tn (by omega) s0
  have lb := gi_nums hn (i := ((rule.length - 1 : Nat) : Int)) (by omega) (by omega)
  rw [← lastI_gi h1] at lb
  have ib2 := invP_bounds (p := p) (lastI (turnL p rule)) hpl.1
  have s2 : invP p (lastI (turnL p rule)) = lastI rule := by
    refine Cg.eq_of ?_ ib2 lb
    rw [sl] at hi2 ⊢
    have a := Cg.mul_left (invP p (invP p (lastI rule))) hi
    have b := hi2.mul (Cg.refl p (lastI rule))
    exact (Cg.of_eq (by omega)).trans (a.symm.trans ((Cg.of_eq (by grind)).trans (b.trans (Cg.of_eq (by omega)))))
  refine gi_ext (by rw [turn_len, turn_len]) fun j hj => ?_
  have jb := gi_nums hn (i := (j : Int)) (by omega) (by omega)
  by_cases z : j + 1 < rule.length
  · rw [turn_gi (by omega), s2, tl, turn_gi (by omega), show rule.length - 2 - (rule.length - 2 - j) = j by omega]
    have a : Cg p (0 - (0 - gi rule (j : Int) * invP p (lastI rule)) % p * lastI rule) (gi rule (j : Int)) := by
      have b := (Cg.refl p 0).sub ((Cg.emod p (0 - gi rule (j : Int) * invP p (lastI rule))).mul (Cg.refl p (lastI rule)))
      have c := Cg.mul_left (gi rule (j : Int)) hi
      exact b.trans ((Cg.of_eq (by grind)).trans (c.trans (Cg.of_eq (by omega))))
    have d := a.eq
    rw [Int.emod_eq_of_lt jb.1 jb.2] at d
    exact d
  · have e : j = rule.length - 1 := by omega
    have := turn_last (p := p) (rule := turnL p rule) (by omega)
    rw [tl, s2] at this
    rw [e, this, lastI_gi h1]
end RF

namespace RF
/-! ### when a row comes round -/
def pw (p : Int) : Nat → Int
  | 0 => 1
  | n + 1 => pw p n * p
theorem pw_pos {p : Int} (hp : 1 ≤ p) : ∀ n, 1 ≤ pw p n
  | 0 => Int.le_refl 1
  | n + 1 => by
    have h := pw_pos hp n
    have := Int.mul_le_mul (a := 1) (b := 1) h hp (by omega) (by omega)
    show 1 ≤ pw p n * p
    omega
theorem pw_step {p : Int} (hp : 1 ≤ p) (n : Nat) : pw p n ≤ pw p (n + 1) := by
  have h := pw_pos hp n
  have := Int.mul_le_mul_of_nonneg_left hp (show 0 ≤ pw p n by omega)
  show pw p n ≤ pw p n * p
  omega
theorem pw_mono {p : Int} (hp : 1 ≤ p) {n m : Nat} (h : n ≤ m) : pw p n ≤ pw p m := by
  induction m with
  | zero =>
    have : n = 0 := by omega
    subst this
    exact Int.le_refl _
  | succ m ih =>
    by_cases e : n = m + 1
    · subst e
      exact Int.le_refl _
    · exact Int.le_trans (ih (by omega)) (pw_step hp m)
theorem pw_grows {p : Int} (hp : 2 ≤ p) : ∀ n : Nat, (n : Int) + 1 ≤ pw p n
  | 0 => Int.le_refl 1
  | n + 1 => by
    have h := pw_grows hp n
    have := Int.mul_le_mul_of_nonneg_left hp (show 0 ≤ pw p n by omega)
    show ((n + 1 : Nat) : Int) + 1 ≤ pw p n * p
    omega
/-- drawers -/
theorem php : ∀ (N : Nat) (f : Nat → Nat), (∀ i, i ≤ N → f i < N) → ∃ i j, i < j ∧ j ≤ N ∧ f i = f j
  | 0, f, h => absurd (h 0 (Nat.le_refl 0)) (Nat.not_lt_zero _)
  | N + 1, f, h => by
    by_cases z : ∃ i, i ≤ N ∧ f i = f (N + 1)
    · obtain ⟨i, h1, h2⟩ := z
      exact ⟨i, N + 1, by omega, Nat.le_refl _, h2⟩
    · have hne : ∀ i, i ≤ N → f i ≠ f (N + 1) := fun i hi e => z ⟨i, hi, e⟩
      have hv := h (N + 1) (Nat.le_refl _)
      obtain ⟨i, j, h1, h2, h3⟩ := php N (fun i => if f i > f (N + 1) then f i - 1 else f i) (fun i hi => by
        have a := h i (by omega)
        have b := hne i hi
        show (if f i > f (N + 1) then f i - 1 else f i) < N
        split <;> omega)
      refine ⟨i, j, h1, by omega, ?_⟩
      have a := hne i (by omega)
      have b := hne j h2
      have h3 : (if f i > f (N + 1) then f i - 1 else f i) = (if f j > f (N + 1) then f j - 1 else f j) := h3
      split at h3 <;> split at h3 <;> omega
def enc (p : Nat) : List Int → Nat
  | [] => 0
  | x :: xs => x.toNat + p * enc p xs
theorem enc_lt {p : Nat} (hp : 1 ≤ p) : ∀ ns : List Int, Nums (p : Int) ns → ((enc p ns : Nat) : Int) < pw (p : Int) ns.length
  | [], _ => by show (0 : Int) < 1; omega
  | x :: xs, h => by
    have ih := enc_lt hp xs fun y hy => h y (List.mem_cons_of_mem _ hy)
    have hx := h x (List.mem_cons_self ..)
    show ((x.toNat + p * enc p xs : Nat) : Int) < pw (p : Int) xs.length * (p : Int)
    have a : (p : Int) * (((enc p xs : Nat) : Int) + 1) ≤ (p : Int) * pw (p : Int) xs.length := Int.mul_le_mul_of_nonneg_left (by omega) (by omega)
    rw [Int.mul_comm (pw (p : Int) xs.length) (p : Int)]
    have b : (p : Int) * (((enc p xs : Nat) : Int) + 1) = (p : Int) * ((enc p xs : Nat) : Int) + (p : Int) := by grind
    have c : ((x.toNat + p * enc p xs : Nat) : Int) = x + (p : Int) * ((enc p xs : Nat) : Int) := by
      rw [Int.natCast_add, Int.natCast_mul, Int.toNat_of_nonneg hx.1]
    omega
theorem enc_inj {p : Nat} : ∀ ns ms : List Int, Nums (p : Int) ns → Nums (p : Int) ms → ns.length = ms.length → enc p ns = enc p ms → ns = ms
  | [], [], _, _, _, _ => rfl
  | [], _ :: _, _, _, h, _ => by simp at h
  | _ :: _, [], _, _, h, _ => by simp at h
  | x :: xs, y :: ys, h1, h2, h3, h4 => by
    have hx := h1 x (List.mem_cons_self ..)
    have hy := h2 y (List.mem_cons_self ..)
    have h4 : x.toNat + p * enc p xs = y.toNat + p * enc p ys := h4
    have xl : x.toNat < p := by omega
    have yl : y.toNat < p := by omega
    have e1 : x.toNat = y.toNat := by
      have a := congrArg (· % p) h4
      have a : (x.toNat + p * enc p xs) % p = (y.toNat + p * enc p ys) % p := a
      rw [Nat.add_mul_mod_self_left, Nat.add_mul_mod_self_left, Nat.mod_eq_of_lt xl, Nat.mod_eq_of_lt yl] at a
      exact a
    have e2 : p * enc p xs = p * enc p ys := by omega
    have e3 : enc p xs = enc p ys := Nat.eq_of_mul_eq_mul_left (by omega) e2
    have e4 : x = y := by omega
    rw [e4, enc_inj xs ys (fun z hz => h1 z (List.mem_cons_of_mem _ hz)) (fun z hz => h2 z (List.mem_cons_of_mem _ hz)) (by
      have h3 : xs.length + 1 = ys.length + 1 := h3
      omega) e3]
theorem least_one (P : Nat → Prop) : ∀ n, 1 ≤ n → P n → ∃ r, 1 ≤ r ∧ r ≤ n ∧ P r ∧ ∀ m, 1 ≤ m → m < r → ¬ P m := by
  intro n
  induction n using Nat.strongRecOn with
  | ind n ih =>
    intro h1 hp
    by_cases z : ∃ m, 1 ≤ m ∧ m < n ∧ P m
    · obtain ⟨m, a, b, c⟩ := z
      obtain ⟨r, d, e, f, g⟩ := ih m b a c
      exact ⟨r, d, by omega, f, g⟩
    · exact ⟨n, h1, Nat.le_refl n, hp, fun m a b c => z ⟨m, a, b, c⟩⟩
/-- what stands in the window -/
def stW (p : Int) (rule begin : List Int) (k : Nat) : List Int := tab rule.length fun j => seqF p rule begin (k + j)
theorem stW_len (p : Int) (rule begin : List Int) (k : Nat) : (stW p rule begin k).length = rule.length := tab_len _ _
theorem stW_gi (p : Int) {rule : List Int} (begin : List Int) (k : Nat) {j : Nat} (h : j < rule.length) : gi (stW p rule begin k) (j : Int) = seqF p rule begin (k + j) := tab_gi h
theorem stW_nums {p : Int} (hp : 0 < p) {rule begin : List Int} (hb : Nums p begin) (k : Nat) : Nums p (stW p rule begin k) := tab_nums fun i _ => seqF_nums hp hb _
theorem stW_0 {p : Int} {rule begin : List Int} (hl : begin.length = rule.length) : stW p rule begin 0 = begin := gi_ext (by rw [stW_len, hl]) fun j hj => by
  rw [stW_gi p begin 0 (by omega), Nat.zero_add, seqF_begin hj]
theorem stW_step {p : Int} {rule begin : List Int} (hl : begin.length = rule.length) (k : Nat) : (stW p rule begin k ++ [nextOf p (stW p rule begin k) rule]).drop 1 = stW p rule begin (k + 1) := by
  refine gi_ext (by rw [List.length_drop, List.length_append, stW_len, stW_len, List.length_singleton]; omega) fun j hj => ?_
  rw [stW_len] at hj
  rw [stW_gi p begin (k + 1) hj]
  have e : gi ((stW p rule begin k ++ [nextOf p (stW p rule begin k) rule]).drop 1) (j : Int) = gi (stW p rule begin k ++ [nextOf p (stW p rule begin k) rule]) ((j + 1 : Nat) : Int) := by
    rw [gi_nat, gi_nat, List.getD_eq_getElem?_getD, List.getD_eq_getElem?_getD, List.getElem?_drop, Nat.add_comm 1 j]
  rw [e]
  by_cases z : j + 1 < rule.length
  · rw [gi_append_left (by rw [stW_len]; exact z), stW_gi p begin k z, show k + 1 + j = k + (j + 1) by omega]
  · rw [gi_append_right (by rw [stW_len]; omega), stW_len, show j + 1 - rule.length = 0 by omega]
    show nextOf p (stW p rule begin k) rule = _
    rw [nextOf_sum p _ rule (fun i => seqF p rule begin (k + i)) rule.length (stW_len _ _ _ _) (Nat.le_refl _) fun n hn => stW_gi p begin k hn, seqF_next (n := k + 1 + j) (by omega) (by omega)]
    congr 1
    refine sumN_congr fun i hi => ?_
    rw [show k + 1 + j - 1 - i = k + (rule.length - 1 - i) by omega]
theorem stW_back {p : Int} (hp : p ∈ primes) {rule begin : List Int} (hn : Nums p rule) (hb : Nums p begin) (hl : begin.length = rule.length) (h0 : rule.length = 0 ∨ lastI rule ≠ 0) {i j : Nat}
    (h : stW p rule begin (i + 1) = stW p rule begin (j + 1)) : stW p rule begin i = stW p rule begin j := by
  have hpl := primes_le p hp
  refine gi_ext (by rw [stW_len, stW_len]) fun k hk => ?_
  rw [stW_len] at hk
  have H : ∀ m, m < rule.length → seqF p rule begin (i + 1 + m) = seqF p rule begin (j + 1 + m) := fun m hm => by
    rw [← stW_gi p begin (i + 1) hm, ← stW_gi p begin (j + 1) hm, h]
  rw [stW_gi p begin i hk, stW_gi p begin j hk]
  by_cases z : k = 0
  · subst z
    rw [Nat.add_zero, Nat.add_zero]
    have R := seqF_rec (p := p) (rule := rule) hl
    obtain ⟨l, hL⟩ : ∃ l, rule.length = l + 1 := ⟨rule.length - 1, by omega⟩
    have a := R i
    have b := R j
    have lastE : lastI rule = gi rule (l : Int) := by
      rw [lastI_gi (by omega), hL]
      rfl
    have ex : ∀ n, sumN (fun k => gi rule (k : Int) * seqF p rule begin (n + rule.length - 1 - k)) rule.length = sumN (fun k => gi rule (k : Int) * seqF p rule begin (n + 1 + (l - 1 - k))) l + lastI rule * seqF p rule begin n := fun n => by
      rw [hL]
      show sumN _ l + gi rule (l : Int) * _ = _
      rw [lastE, show n + (l + 1) - 1 - l = n by omega]
      congr 1
      refine sumN_congr fun m hm => ?_
      rw [show n + (l + 1) - 1 - m = n + 1 + (l - 1 - m) by omega]
    have e1 : seqF p rule begin (i + rule.length) = seqF p rule begin (j + rule.length) := by
      have := H l (by omega)
      rw [show i + rule.length = i + 1 + l by omega, show j + rule.length = j + 1 + l by omega]
      exact this
    have e2 : sumN (fun k => gi rule (k : Int) * seqF p rule begin (i + 1 + (l - 1 - k))) l = sumN (fun k => gi rule (k : Int) * seqF p rule begin (j + 1 + (l - 1 - k))) l := sumN_congr fun m hm => by rw [H (l - 1 - m) (by omega)]
    rw [ex i, e1, e2] at a
    rw [ex j] at b
    have c := a.symm.trans b
    have d : Cg p (lastI rule * seqF p rule begin i) (lastI rule * seqF p rule begin j) := by
      have := c.sub (Cg.refl p (sumN (fun k => gi rule (k : Int) * seqF p rule begin (j + 1 + (l - 1 - k))) l))
      exact (Cg.of_eq (by omega)).trans (this.trans (Cg.of_eq (by omega)))
    have inv := turn_inv hp hn (by omega) (h0.resolve_left (by omega))
    have e := Cg.mul_left (invP p (lastI rule)) d
    have f1 := inv.mul (Cg.refl p (seqF p rule begin i))
    have f2 := inv.mul (Cg.refl p (seqF p rule begin j))
    have g : Cg p (seqF p rule begin i) (seqF p rule begin j) := (Cg.of_eq (by omega)).trans (f1.symm.trans ((Cg.of_eq (by grind)).trans (e.trans ((Cg.of_eq (by grind)).trans (f2.trans (Cg.of_eq (by omega)))))))
    exact g.eq_of (seqF_nums (by omega) hb _) (seqF_nums (by omega) hb _)
  · have := H (k - 1) (by omega)
    rw [show i + 1 + (k - 1) = i + k by omega, show j + 1 + (k - 1) = j + k by omega] at this
    exact this
theorem stW_round {p : Int} (hp : p ∈ primes) {rule begin : List Int} (hn : Nums p rule) (hb : Nums p begin) (hl : begin.length = rule.length) (h0 : rule.length = 0 ∨ lastI rule ≠ 0) : ∀ i j, i < j → stW p rule begin i = stW p rule begin j → stW p rule begin (j - i) = begin
  | 0, j, _, h => by
    rw [Nat.sub_zero, ← h, stW_0 hl]
  | i + 1, j, hij, h => by
    obtain ⟨m, rfl⟩ : ∃ m, j = m + 1 := ⟨j - 1, by omega⟩
    have := stW_round hp hn hb hl h0 i m (by omega) (stW_back hp hn hb hl h0 h)
    rw [show m + 1 - (i + 1) = m - i by omega]
    exact this
/-- the round -/
def Rnd (p : Int) (rule begin : List Int) (r : Nat) : Prop := 1 ≤ r ∧ r ≤ 2000 ∧ stW p rule begin r = begin ∧ ∀ m, 1 ≤ m → m < r → stW p rule begin m ≠ begin
theorem rnd_is {p : Int} (hp : p ∈ primes) {rule begin : List Int} (hn : Nums p rule) (hb : Nums p begin) (hl : begin.length = rule.length) (h0 : rule.length = 0 ∨ lastI rule ≠ 0) (hbd : pw p rule.length ≤ 2000) : ∃ r, Rnd p rule begin r := by
  have hpl := primes_le p hp
  obtain ⟨q, rfl⟩ : ∃ q : Nat, p = (q : Int) := ⟨p.toNat, by omega⟩
  have hpp := pw_pos (p := (q : Int)) (by omega) rule.length
  obtain ⟨i, j, h1, h2, h3⟩ := php (pw (q : Int) rule.length).toNat (fun k => enc q (stW (q : Int) rule begin k)) (fun k _ => by
    have := enc_lt (p := q) (by omega) (stW (q : Int) rule begin k) (stW_nums (by omega) hb k)
    rw [stW_len] at this
    show enc q (stW (q : Int) rule begin k) < _
    omega)
  have e := enc_inj _ _ (stW_nums (by omega) hb i) (stW_nums (by omega) hb j) (by rw [stW_len, stW_len]) h3
  have e2 := stW_round hp hn hb hl h0 i j h1 e
  obtain ⟨r, a, b, c, d⟩ := least_one (fun m => stW (q : Int) rule begin m = begin) (j - i) (by omega) e2
  exact ⟨r, a, by omega, c, d⟩
end RF
namespace RF
theorem stW_on {p : Int} {rule begin : List Int} (hl : begin.length = rule.length) (k : Nat) : (onBy p rule (stW p rule begin k) (1 : Int).toNat).drop (1 : Int).toNat = stW p rule begin (k + 1) := stW_step hl k
end RF
namespace RF
theorem pw_le {p : Int} (hp : 2 ≤ p) : ∀ n, pw 2 n ≤ pw p n
  | 0 => Int.le_refl 1
  | n + 1 => Int.mul_le_mul (pw_le hp n) hp (by omega) (by have := pw_pos (p := p) (by omega) n; omega)
theorem pw_two {p : Int} (hp : 2 ≤ p) : 2048 ≤ pw p 11 := Int.le_trans (by decide) (pw_le hp 11)
end RF

namespace RF
/-! ### all rules of a length -/
def extR (p : Int) (r : List Int) : List (List Int) := (List.range p.toNat).map fun j => r ++ [((j : Nat) : Int)]
def allR (p : Int) : Nat → List (List Int)
  | 0 => [[]]
  | k + 1 => (allR p k).flatMap (extR p)
theorem allR_nums {p : Int} : ∀ k, ∀ r ∈ allR p k, r.length = k ∧ Nums p r
  | 0, r, h => by
    have h : r ∈ [[]] := h
    rw [List.mem_singleton] at h
    subst h
    exact ⟨rfl, Nums.nil⟩
  | k + 1, r, h => by
    have h : r ∈ (allR p k).flatMap (extR p) := h
    rw [List.mem_flatMap] at h
    obtain ⟨q, hq, h⟩ := h
    obtain ⟨a, b⟩ := allR_nums k q hq
    unfold extR at h
    rw [List.mem_map] at h
    obtain ⟨j, hj, rfl⟩ := h
    rw [List.mem_range] at hj
    refine ⟨by rw [List.length_append, a] <;> rfl, b.append (Nums.one (by omega) (by omega))⟩
theorem allR_all {p : Int} : ∀ (k : Nat) (r : List Int), r.length = k → Nums p r → r ∈ allR p k
  | 0, r, h, _ => by
    have e : r = [] := List.length_eq_zero_iff.mp h
    subst e
    exact List.mem_singleton.mpr rfl
  | k + 1, r, h, hn => by
    have hne : r ≠ [] := fun e => by
      subst e
      cases h
    have e := List.dropLast_concat_getLast hne
    have hl := hn _ (List.getLast_mem hne)
    show r ∈ (allR p k).flatMap (extR p)
    rw [List.mem_flatMap]
    refine ⟨r.dropLast, allR_all k _ (by rw [List.length_dropLast, h] <;> rfl) (fun x hx => hn x ((List.dropLast_sublist r).subset hx)), ?_⟩
    unfold extR
    rw [List.mem_map]
    refine ⟨(r.getLast hne).toNat, List.mem_range.mpr (by omega), ?_⟩
    rw [Int.toNat_of_nonneg hl.1]
    exact e
theorem flat_length {p : Int} (hp : 0 ≤ p) : ∀ l : List (List Int), (((l.flatMap (extR p)).length : Nat) : Int) = (l.length : Int) * p
  | [] => by simp
  | r :: l => by
    rw [List.flatMap_cons, List.length_append, Int.natCast_add, flat_length hp l, List.length_cons]
    have e : (extR p r).length = p.toNat := by
      unfold extR
      rw [List.length_map, List.length_range]
    rw [e, Int.toNat_of_nonneg hp]
    grind
theorem allR_len {p : Int} (hp : 0 ≤ p) : ∀ k, (((allR p k).length : Nat) : Int) = pw p k
  | 0 => rfl
  | k + 1 => by
    show ((((allR p k).flatMap (extR p)).length : Nat) : Int) = pw p k * p
    rw [flat_length hp, allR_len hp k]
/-- the least length of all, by all rules -/
def Least (p : Int) (row : List Int) (L : Nat) : Prop := L ≤ row.length ∧ (∀ l, l < L → ∀ r ∈ allR p l, goesB p row r = false) ∧ ∃ r ∈ allR p L, goesB p row r = true
theorem least_bm {p : Int} (hp : p ∈ primes) {row : List Int} (hr : Nums p row) : Least p row (bmN p row row.length).long := by
  have hpl := primes_le p hp
  have I := bm_inv hp row row.length
  refine ⟨I.ln, fun l hl r hm => ?_, ruleOf p (bmN p row row.length), allR_all _ _ (ruleOf_len _ _) (ruleOf_nums (by omega) _), (goes_B (by omega) hr).mp (rule_goes I)⟩
  cases h : goesB p row r with
  | false => rfl
  | true =>
    have := rule_least hpl.1 I ((goes_B (by omega) hr).mpr h)
    rw [(allR_nums l r hm).1] at this
    omega
theorem least_take {p : Int} (hp : p ∈ primes) {row : List Int} (hr : Nums p row) {n : Nat} (h : n ≤ row.length) : Least p (row.take n) (bmN p row n).long := by
  have a := least_bm hp (hr.take n)
  rw [List.length_take, Nat.min_eq_left h, bm_take p row n n (Nat.le_refl n)] at a
  exact a
end RF

namespace RF
open PySem PySem.Spec PyProof.Rows L2 Evl
section
variable {K : PySem.W.Frag} {σ : L2.St} {H H' H0 H1 : Hp} {ta tb te tx tl : TE} {t u : TT} {x y z v : V} {D : Ends} {tu tw tz : TS} {g : TG} {d : PyData} {f a : Addr}
/-- xs[-1] -/
theorem atI_last {ns : List Int} (h : 1 ≤ ns.length) : atI (ns.map V.int) (-1) = some (.int (gi ns ((ns.length : Int) - 1))) := by
  have e : ixN (ns.map V.int).length (-1) = some (ns.length - 1) := by
    rw [List.length_map]
    unfold ixN
    rw [if_neg (by omega), if_pos (by omega)]
    congr 1
    omega
  unfold atI
  rw [e]
  show (ns.map V.int)[ns.length - 1]? = _
  rw [List.getElem?_map, List.getElem?_eq_getElem (by omega), show (ns.length : Int) - 1 = ((ns.length - 1 : Nat) : Int) by omega, gi_lt (by omega)]
  rfl
theorem ev_ixl {ns : List Int} (ha : EvD K ta σ H (dl ns)) (hb : Ev tb σ H (.int (-1))) (h : 1 ≤ ns.length) : Ev (tOp (rIxL K) ta tb) σ H (.int (gi ns ((ns.length : Int) - 1))) := fun H1 e Q q =>
  ha H1 e _ fun v H2 e2 hv => by
    obtain ⟨a, rfl, ha'⟩ := dl_dp hv
    exact hb H2 (e.trans e2) _ fun H3 e3 => ⟨a, _, -1, _, rfl, rfl, ex_l e3 ha', atI_last h, q H3 (e2.trans e3)⟩
/-- xs[:-1] -/
theorem cut_init {ns : List Int} (h : 1 ≤ ns.length) : cutI ns none (some (-1)) = ns.take (ns.length - 1) := by
  unfold cutI
  have e : HT.sIx ns.length ns.length (some (-1)) = ns.length - 1 := by
    unfold HT.sIx
    simp
    omega
  rw [e, HT.sIx_none]
  simp
theorem el_init {ns : List Int} (h : EvD K te σ H (dl ns)) (h1 : Ev tb σ H (.int (-1))) (hl : 1 ≤ ns.length) : EvL (tSl (rSlL K) te tNoPart (tPart tb)) σ H ((ns.take (ns.length - 1)).map V.int) := by
  rw [← cut_init hl]
  exact el_slD h eo_none (eo_some h1)
/-- a heap without one place -/
def del (H : Hp) (f : Addr) : Hp := fun a => if a = f then none else H a
theorem del_self : del H f f = none := if_pos rfl
theorem del_ne (h : a ≠ f) : del H f a = H a := if_neg h
theorem del_sub : Ex (del H f) H := fun a o h => by
  unfold del at h
  by_cases e : a = f
  · rw [if_pos e] at h
    cases h
  · rw [if_neg e] at h
    exact h
theorem del_ex (e : Ex H0 H) (h : H0 f = none) : Ex H0 (del H f) := fun a o ha => by
  have hn : a ≠ f := fun z => by
    subst z
    rw [h] at ha
    cases ha
  rw [del_ne hn]
  exact e a o ha
theorem del_at {o : HO} (h : H a = some o) (hn : a ≠ f) : del H f a = some o := by
  rw [del_ne hn]
  exact h
/-- x = (a, b, ..) -/
theorem s_asgT {i : Nat} {ta : TA} {vs : List V} (h : EvA ta σ H vs) (hl : vs.length ≤ 100000) (k : ∀ p H1 H2, Ex H H1 → H1 p = none → Ex H1 H2 → H2 p = some (.tup vs) → D.nx (σ.set i (some (.ref p))) H2) : tAsg (tTup ta) (gName i) D σ H :=
  h H (Ex.refl H) _ fun H1 e => ⟨sz_of hl, fun p hp => k p H1 _ e hp (Ex.new hp) upd_same⟩
theorem s_retT {ta : TA} {vs : List V} (h : EvA ta σ H vs) (hl : vs.length ≤ 100000) (k : ∀ p H1, H p = none → Ex H H1 → H1 p = some (.tup vs) → D.rt (.ref p) H1) : tRet (tTup ta) D σ H :=
  h H (Ex.refl H) _ fun H1 e => ⟨sz_of hl, fun p hp => k p _ (fresh_back e hp) (e.trans (Ex.new hp)) upd_same⟩
/-- [e for k in range(n) if t] of ints -/
theorem el_r1t {ta : TA} {j : Nat} {vs : List Nat} {n : Int} (f : Nat → Bool) (v : Nat → Int) (h : EvA ta σ H [.int n]) (hn : 0 ≤ n ∧ n ≤ 40000) (hw : ∀ x, wipe ((wipe σ vs).set j (some x)) vs = wipe σ vs)
    (ht : ∀ (i : Nat) H1, Ex H H1 → (i : Int) < n → EvT t ((wipe σ vs).set j (some (.int (i : Int)))) H1 (f i))
    (he : ∀ (i : Nat) H1, Ex H H1 → (i : Int) < n → f i = true → Ev te ((wipe σ vs).set j (some (.int (i : Int)))) H1 (.int (v i))) : EvL (tLc (iRng1 ta) (gName j) t te vs) σ H ((((List.range n.toNat).filter f).map v).map V.int) := by
  have q := el_lcR1 (te := te) (t := t) (σ := σ) (H := H) (j := j) (vs := vs) (n := n) f (fun i => V.int (v i)) h hn hw ht he
  unfold given at q
  rw [List.map_map]
  exact q
end
/-! ### what the making of the shortest rule tells -/
def jumpD : Option (List Int × Nat × Int) → PyData
  | none => .none
  | some (t, m, h) => .tuple [dl t, .int (m : Int), .int h]
def sp_found_by (K : PySem.W.Frag) : Sp := fun vs H Q _ => ∃ p row, DpAll K H vs [.int p, dl row] ∧ p ∈ primes ∧ Nums p row ∧ row.length ≤ 60 ∧
  ∀ (a f : Addr) (vt vj : V) H', H f = none → Ex H H' → H' a = some (.tup [vt, .ref f, vj]) → Dp K H' vt (dl (bmN p row row.length).test) → H' f = some (.lst ((longsL p row row.length).map V.int)) → Dp K H' vj (jumpD (bmN p row row.length).jump) → Q (.ref a) H'
def sp_paper (K : PySem.W.Frag) : Sp := fun vs H Q _ => ∃ p row, DpAll K H vs [.int p, dl row] ∧ p ∈ primes ∧ isPrime p = true ∧ areNums p row = true ∧ Nums p row ∧ row.length ≤ 30 ∧
  ((bmN p row row.length).jump = none → ∀ H', Ex H H' → Q .non H') ∧ (∀ t m h, (bmN p row row.length).jump = some (t, m, h) → ∀ f H', H f = none → Ex H H' → H' f = some (.lst ((paperL p row.length t m (invP p h)).map V.int)) → Q (.ref f) H')
end RF
namespace RF
open PySem PySem.Spec PyProof.Rows L2 Evl
theorem rv_isN {x : V} {H : Hp} : RV rIsN x .non H (.bl (decide (x = .non))) := fun H1 _ Q q => ⟨rfl, q H1 (Ex.refl H1)⟩
end RF
namespace RF
open PySem PySem.Spec PyProof.Rows L2 Evl
theorem ev_sp {K : PySem.W.Frag} {σ : L2.St} {H : Hp} {sp : Sp} {E : XK} {ta : TA} {ds : List PyData} {Q : VK} (h : EvDA K ta σ H ds) (k : ∀ vs H1, Ex H H1 → DpAll K H1 vs ds → sp vs H1 Q E) : tCall sp [] E ta σ H Q :=
  h H (Ex.refl H) _ fun vs H1 e hv => by
    rw [List.append_nil]
    exact k vs H1 e hv
end RF
namespace RF
open PySem PySem.Spec PyProof.Rows L2 Evl
theorem ev_asg {σ : L2.St} {H : Hp} {te : TE} {v : V} {Q : VK} (h : Ev te σ H v) (k : ∀ H1, Ex H H1 → Q v H1) : te σ H Q := h H (Ex.refl H) _ k
end RF
namespace RF
open PySem PySem.Spec PyProof.Rows L2 Evl
section
variable {K : PySem.W.Frag} {σ : L2.St} {H H2 : Hp} {te : TE} {D : Ends} {tz : TS} {i j k : Nat} {n : Int} {a : Addr} {x y z : V}
theorem q_unp3 (h : te σ H (fun v H2 => gTup K 3 (gCons (gName i) (gCons (gName j) (gCons (gName k) gNil))) v σ H2 (tz D))) : tSeq (tAsg te (gTup K 3 (gCons (gName i) (gCons (gName j) (gCons (gName k) gNil))))) tz D σ H := h
theorem unp3 (h : SqT K H2 a [x, y, z]) (q : tz D (((σ.set i (some x)).set j (some y)).set k (some z)) H2) : gTup K 3 (gCons (gName i) (gCons (gName j) (gCons (gName k) gNil))) (.ref a) σ H2 (tz D) := ⟨a, _, rfl, h, rfl, _, _, rfl, _, _, rfl, _, _, rfl, rfl, q⟩
theorem s_retIx (h : te σ H (fun v H2 => rIxT K v (.int n) H2 D.rt)) : tRet (tOp (rIxT K) te (tC (.int n))) D σ H := h
theorem q_asgIx (h : te σ H (fun v H2 => rIxT K v (.int n) H2 (fun x H3 => tz D (σ.set i (some x)) H3))) : tSeq (tAsg (tOp (rIxT K) te (tC (.int n))) (gName i)) tz D σ H := h
end
end RF
namespace RF
open PySem PySem.Spec PyProof.Rows L2 Evl
theorem q_appV {K : PySem.W.Frag} {σ : L2.St} {H : Hp} {ta te : TE} {v : V} {D : Ends} {tz : TS} {l : Addr} {xs : List V} (hl : H l = some (.lst xs)) (ha : Ev ta σ H (.ref l)) (h : Ev te σ H v) (hz : xs.length < 100000)
    (k : ∀ H1, Ex H H1 → tz D σ (upd H1 l (.lst (xs ++ [v])))) : tSeq (tDrop (tBM K "list" rAppend ta (tCons te tNil))) tz D σ H := s_app (D := { D with nx := tz D }) hl ha h hz k
theorem rv_notB {a b : Bool} {H : Hp} : RV rNotB (.bl a) (.bl b) H (.bl (!decide (a = b))) := fun H1 _ Q q => ⟨a, b, rfl, rfl, q H1 (Ex.refl H1)⟩
/-- two lists of lists that grow, apart from what lies in them -/
def Two (K : PySem.W.Frag) (H H' : Hp) (r1 r2 : Addr) (ds es : List PyData) : Prop := ∃ H0 xs ys, Ex H H0 ∧ H0 r1 = none ∧ H0 r2 = none ∧ Ex H0 H' ∧ H' r1 = some (.lst xs) ∧ H' r2 = some (.lst ys) ∧ DpAll K H0 xs ds ∧ DpAll K H0 ys es
theorem dpAll_snoc {K : PySem.W.Frag} {H : Hp} {xs : List V} {ds : List PyData} {v : V} {d : PyData} (h : DpAll K H xs ds) (hd : Dp K H v d) : DpAll K H (xs ++ [v]) (ds ++ [d]) := dpAll_app h (.cons hd .nil)
end RF
namespace RF
open PySem PySem.Spec PyProof.Rows L2 Evl
section
variable {K : PySem.W.Frag} {σ : L2.St} {H : Hp} {ta tb te : TE} {D : Ends} {tz : TS} {l : Addr}
/-- xs[::-1] -/
theorem el_revL {ns : List Int} (h : EvD K te σ H (dl ns)) : EvL (tRevL K te) σ H (ns.reverse.map V.int) := fun H1 e Q q => h H1 e _ fun v H2 e2 hv => by
  obtain ⟨a, rfl, ha⟩ := dl_dp hv
  exact ⟨a, _, rfl, ha, fun p hp => q p _ (fresh_back e2 hp) (e2.trans (Ex.new hp)) (by rw [List.map_reverse]; exact upd_same)⟩
/-- xs[-1] = e -/
theorem s_setLast {ns : List Int} {y : Int} (hl : H l = some (.lst (ns.map V.int))) (h : Ev te σ H (.int y)) (ho : Ev ta σ H (.ref l)) (hi : Ev tb σ H (.int (-1))) (h1 : 1 ≤ ns.length) (k : ∀ H1, Ex H H1 → D.nx σ (upd H1 l (.lst ((ns.set (ns.length - 1) y).map V.int)))) :
    tAsg te (gSub ta tb rSetL) D σ H := h H (Ex.refl H) _ fun H1 e1 => ho H1 e1 _ fun H2 e2 => hi H2 (e1.trans e2) _ fun H3 e3 =>
  ⟨l, _, -1, ns.length - 1, rfl, rfl, ((e1.trans e2).trans e3) l _ hl, by
    rw [List.length_map]
    unfold ixN
    rw [if_neg (by omega), if_pos (by omega)]
    congr 1
    omega, by rw [← List.map_set]; exact k H3 ((e1.trans e2).trans e3)⟩
/-- [e for x in reversed(xs)] -/
theorem el_revI {ta : TA} {ns : List Int} {j : Nat} {vs : List Nat} (v : Int → V) (h : EvDA K ta σ H [dl ns]) (hz : ns.length ≤ 40000) (hw : ∀ x, wipe ((wipe σ vs).set j (some x)) vs = wipe σ vs)
    (he : ∀ (x : Int) H1, Ex H H1 → x ∈ ns → Ev te ((wipe σ vs).set j (some (.int x))) H1 (v x)) : EvL (tLc (iRev K ta) (gName j) tYes te vs) σ H (ns.reverse.map v) := fun H0 e Q q => h H0 e _ fun ws H1 e1 hv => by
  obtain ⟨w, rfl, hw1⟩ := args1 hv
  obtain ⟨a, rfl, ha⟩ := dl_dp hw1
  refine ⟨a, ns.map V.int, rfl, ha, fun D hD => ?_⟩
  rw [List.length_map]
  refine ⟨fun i m H' => m = ns.length - i ∧ i ≤ ns.length ∧ Ex H1 H' ∧ H' D = some (.lst ((ns.reverse.take i).map v)), ⟨_, rfl, Nat.zero_le _, Ex.new hD, upd_same⟩, fun i m H' hW => ?_⟩
  obtain ⟨rfl, hi, eH, hA⟩ := hW
  by_cases hlt : i < ns.length
  · have hg : (ns.map V.int)[ns.length - 1 - i]? = some (.int (ns[ns.length - 1 - i]'(by omega))) := by
      rw [List.getElem?_map, List.getElem?_eq_getElem (by omega)]
      rfl
    refine Or.inr ⟨⟨hlt, _, _, ex_l eH ha, hg⟩, fun H'' => Ex H1 H'' ∧ H'' D = some (.lst ((ns.reverse.take (i + 1)).map v)), fun H'' hN => ⟨ns.length - (i + 1), by omega, rfl, by omega, hN.1, hN.2⟩, fun x H'' hx => ?_⟩
    obtain ⟨rfl, hx⟩ := hx
    have hx := hx _ (ex_l eH ha)
    rw [hg] at hx
    obtain rfl := (Option.some.inj hx).symm
    refine ⟨hw _, ?_⟩
    show te _ H'' _
    refine he _ H'' (e.trans (e1.trans eH)) (List.getElem_mem _) H'' (Ex.refl _) _ fun H4 e4 => ⟨_, e4 _ _ hA, ?_, Ex.mut (eH.trans e4) hD, ?_⟩
    · have : ((ns.reverse.take i).map v).length + 1 ≤ sizeLine := sz_of (by
        rw [List.length_map, List.length_take, List.length_reverse]
        omega)
      omega
    · rw [upd_same]
      congr 2
      rw [List.take_succ, List.map_append, List.getElem?_eq_getElem (by rw [List.length_reverse]; exact hlt), List.getElem_reverse]
      rfl
  · refine Or.inl ⟨Nat.le_of_not_lt hlt, q D H' (fresh_back e1 hD) (e1.trans eH) ?_⟩
    rw [hA, List.take_of_length_le (by rw [List.length_reverse]; omega)]
end
end RF
namespace RF
open PySem PySem.Spec PyProof.Rows L2 Evl
theorem ea_is {σ : L2.St} {H : Hp} {ta : TA} {vs ws : List V} (h : EvA ta σ H vs) (e : vs = ws) : EvA ta σ H ws := e ▸ h
end RF

namespace RF
open PySem PySem.Spec PyProof.Rows L2 Evl
section
variable {K : PySem.W.Frag} {σ : L2.St} {B H H' H1 H2 : Hp} {ta tb te tl : TE} {t : TT} {D : Ends} {tu tz : TS} {v : V} {d : PyData} {nss mss : List (List Int)}
/-- what is new since B -/
def Nw (B H : Hp) : Hp := fun a => if B a = none then H a else none
theorem nw_sub : Ex (Nw B H) H := fun a o h => by
  unfold Nw at h
  by_cases e : B a = none
  · rw [if_pos e] at h
    exact h
  · rw [if_neg e] at h
    cases h
theorem nw_at {a : Addr} {o : HO} (h : H a = some o) (hb : B a = none) : Nw B H a = some o := by
  unfold Nw
  rw [if_pos hb]
  exact h
theorem nw_mono (e : Ex H H') : Ex (Nw B H) (Nw B H') := fun a o h => by
  unfold Nw at h ⊢
  by_cases z : B a = none
  · rw [if_pos z] at h ⊢
    exact e a o h
  · rw [if_neg z] at h
    cases h
/-- a new list of new lists of ints -/
def NL (B H : Hp) (v : V) (nss : List (List Int)) : Prop := ∃ (a : Addr) (as : List Addr), v = .ref a ∧ B a = none ∧ H a = some (.lst (as.map V.ref)) ∧ Paired (fun b (ns : List Int) => B b = none ∧ H b = some (.lst (ns.map V.int))) as nss
theorem NL.ex (h : NL B H v nss) (e : Ex H H') : NL B H' v nss := by
  obtain ⟨a, as, h1, h2, h3, h4⟩ := h
  exact ⟨a, as, h1, h2, e _ _ h3, Paired.mapP h4 fun b ns z => ⟨z.1, e _ _ z.2⟩⟩
theorem nl_all : ∀ {as : List Addr} {nss : List (List Int)}, Paired (fun b (ns : List Int) => B b = none ∧ H b = some (.lst (ns.map V.int))) as nss → DpAll K (Nw B H) (as.map V.ref) (nss.map dl)
  | _, _, .nil => .nil
  | _, _, .cons h t => .cons (dp_lst (nw_at h.2 h.1)) (nl_all t)
theorem NL.dp (h : NL B H v nss) : Dp K (Nw B H) v (.list (nss.map dl)) := by
  obtain ⟨a, as, rfl, h2, h3, h4⟩ := h
  exact .lst (sq_of (nw_at h3 h2)) (nl_all h4)
def EvNL (te : TE) (σ : L2.St) (H : Hp) (nss : List (List Int)) : Prop := ∀ H1, Ex H H1 → ∀ Q : VK, (∀ v H2, Ex H1 H2 → NL H1 H2 v nss → Q v H2) → te σ H1 Q
def EvN (K : PySem.W.Frag) (te : TE) (σ : L2.St) (H : Hp) (d : PyData) : Prop := ∀ H1, Ex H H1 → ∀ Q : VK, (∀ v H2, Ex H1 H2 → Dp K (Nw H1 H2) v d → Q v H2) → te σ H1 Q
theorem evN_D (h : EvN K te σ H d) : EvD K te σ H d := fun H1 e Q q => h H1 e Q fun v H2 e2 hv => q v H2 e2 (dpx nw_sub hv)
/-- [], [[]] -/
theorem enl_nil : EvNL (tLst tNil) σ H [] := fun H1 e Q q => el_lst (σ := σ) (H := H) ea_nil (Nat.zero_le _) H1 e Q fun p H2 hp e2 h2 => q _ H2 e2 ⟨p, [], rfl, hp, h2, .nil⟩
theorem enl_one {ns : List Int} (h : EvL te σ H (ns.map V.int)) : EvNL (tLst (tCons te tNil)) σ H [ns] := fun H1 e Q q => h H1 e _ fun p H2 hp e2 h2 => ⟨by show 1 ≤ sizeLine; decide, fun r hr =>
  q _ _ (e2.trans (Ex.new hr)) ⟨r, [p], rfl, fresh_back e2 hr, upd_same, .cons ⟨hp, by rw [upd_ne (ne_of_none h2 hr)]; exact h2⟩ .nil⟩⟩
theorem paired_app {α β : Type} {R : α → β → Prop} : ∀ {as : List α} {bs : List β} {cs : List α} {ds : List β}, Paired R as bs → Paired R cs ds → Paired R (as ++ cs) (bs ++ ds)
  | _, _, _, _, .nil, h => h
  | _, _, _, _, .cons a t, h => .cons a (paired_app t h)
theorem paired_get {α β : Type} {R : α → β → Prop} : ∀ {as : List α} {bs : List β}, Paired R as bs → ∀ {i : Nat} {a : α}, as[i]? = some a → ∃ b, bs[i]? = some b ∧ R a b
  | _, _, .nil, i, a, h => by simp at h
  | _, _, .cons x t, 0, a, h => ⟨_, rfl, by cases h; exact x⟩
  | _, _, .cons x t, i + 1, a, h => paired_get t (i := i) h
/-- xs + ys of such -/
theorem nl_cat {i : Nat} (eB : Ex B H) (ha : Ev ta σ H v) (hv : NL B H v nss) (hb : EvNL tb σ H mss) (hl : nss.length + mss.length ≤ 100000) (k : ∀ w H1, Ex H H1 → NL B H1 w (nss ++ mss) → D.nx (σ.set i (some w)) H1) : tAsg (tOp rCat ta tb) (gName i) D σ H :=
  ha H (Ex.refl H) _ fun H1 e1 => hb H1 e1 _ fun w H2 e2 hw => by
    obtain ⟨a, as, rfl, b1, b2, b3⟩ := hv.ex (e1.trans e2)
    obtain ⟨c, cs, rfl, c1, c2, c3⟩ := hw
    refine ⟨a, c, as.map V.ref, cs.map V.ref, rfl, rfl, b2, c2, ?_, fun p hp => ?_⟩
    · rw [List.length_map, List.length_map, Paired.length b3, Paired.length c3]
      exact sz_of hl
    · have e3 := (e1.trans e2).trans (Ex.new (o := .lst (as.map V.ref ++ cs.map V.ref)) hp)
      refine k _ _ e3 ⟨p, as ++ cs, rfl, fresh_back (eB.trans (e1.trans e2)) hp, ?_, paired_app (Paired.mapP b3 fun b ns z => ⟨z.1, Ex.new hp _ _ z.2⟩) (Paired.mapP c3 fun b ns z => ⟨fresh_back (eB.trans e1) z.1, Ex.new hp _ _ z.2⟩)⟩
      rw [upd_same, List.map_append]
theorem paired_snoc {α β : Type} {R : α → β → Prop} {as : List α} {bs : List β} {a : α} {b : β} (h : Paired R as bs) (x : R a b) : Paired R (as ++ [a]) (bs ++ [b]) := paired_app h (.cons x .nil)
/-- [e for k in range(n)], e new lists of ints -/
theorem enl_r1 {ta : TA} {j : Nat} {vs : List Nat} {n : Int} (f : Nat → List Int) (h : EvA ta σ H [.int n]) (hn : 0 ≤ n ∧ n ≤ 40000) (hw : ∀ x, wipe ((wipe σ vs).set j (some x)) vs = wipe σ vs)
    (he : ∀ (i : Nat) H1, Ex H H1 → (i : Int) < n → EvL te ((wipe σ vs).set j (some (.int (i : Int)))) H1 ((f i).map V.int)) : EvNL (tLc (iRng1 ta) (gName j) tYes te vs) σ H ((List.range n.toNat).map f) := fun H0 e Q q => h H0 e _ fun H1 e1 => ⟨n, rfl, by omega, by omega, fun Dl hD => by
  refine lc_range (lo := 0) (n := n.toNat) (fun i H' => Ex H1 H' ∧ ∃ as : List Addr, H' Dl = some (.lst (as.map V.ref)) ∧ Paired (fun b (ns : List Int) => H1 b = none ∧ b ≠ Dl ∧ H' b = some (.lst (ns.map V.int))) as ((List.range i).map f)) ⟨Ex.new hD, [], upd_same, .nil⟩ (fun i H' hi hP => ⟨hw _, ?_⟩) (fun H' hP => ?_)
  · obtain ⟨eH, as, k1, k2⟩ := hP
    have hal : as.length = i := by rw [Paired.length k2, List.length_map, List.length_range]
    show te _ H' _
    have he2 := he i H1 (e.trans e1) (by omega)
    rw [Int.zero_add]
    refine he2 H' eH _ fun p H4 hp e4 h4 => ⟨_, e4 _ _ k1, ?_, Ex.mut (eH.trans e4) hD, as ++ [p], ?_, ?_⟩
    · have : (as.map V.ref).length + 1 ≤ sizeLine := sz_of (by rw [List.length_map]; omega)
      omega
    · rw [upd_same, List.map_append] <;> rfl
    · have hpd : p ≠ Dl := (ne_of_none k1 hp).symm
      rw [List.range_succ, List.map_append]
      refine paired_snoc (Paired.mapP k2 fun b ns z => ⟨z.1, z.2.1, ?_⟩) ⟨fresh_back eH hp, hpd, ?_⟩
      · rw [upd_ne z.2.1]
        exact e4 _ _ z.2.2
      · rw [upd_ne hpd]
        exact h4
  · obtain ⟨eH, as, k1, k2⟩ := hP
    exact q _ H' (e1.trans eH) ⟨Dl, as, rfl, fresh_back e1 hD, k1, Paired.mapP k2 fun b ns z => ⟨fresh_back e1 z.1, z.2.2⟩⟩⟩
/-- [e for k in range(n)], e new data -/
theorem evN_r1 {ta : TA} {j : Nat} {vs : List Nat} {n : Int} (f : Nat → PyData) (h : EvA ta σ H [.int n]) (hn : 0 ≤ n ∧ n ≤ 40000) (hw : ∀ x, wipe ((wipe σ vs).set j (some x)) vs = wipe σ vs)
    (he : ∀ (i : Nat) H1, Ex H H1 → (i : Int) < n → EvN K te ((wipe σ vs).set j (some (.int (i : Int)))) H1 (f i)) : EvN K (tLc (iRng1 ta) (gName j) tYes te vs) σ H (.list ((List.range n.toNat).map f)) := fun H0 e Q q => h H0 e _ fun H1 e1 => ⟨n, rfl, by omega, by omega, fun Dl hD => by
  refine lc_range (lo := 0) (n := n.toNat) (fun i H' => Ex H1 H' ∧ ∃ xs : List V, H' Dl = some (.lst xs) ∧ DpAll K (del (Nw H1 H') Dl) xs ((List.range i).map f)) ⟨Ex.new hD, [], upd_same, .nil⟩ (fun i H' hi hP => ⟨hw _, ?_⟩) (fun H' hP => ?_)
  · obtain ⟨eH, xs, k1, k2⟩ := hP
    have hal : xs.length = i := by rw [dpAll_len k2, List.length_map, List.length_range]
    show te _ H' _
    have he2 := he i H1 (e.trans e1) (by omega)
    rw [Int.zero_add]
    refine he2 H' eH _ fun x H4 e4 hx => ⟨_, e4 _ _ k1, ?_, Ex.mut (eH.trans e4) hD, xs ++ [x], upd_same, ?_⟩
    · have : xs.length + 1 ≤ sizeLine := sz_of (by omega)
      omega
    · have s1 : Ex (del (Nw H1 H') Dl) (del (Nw H1 (upd H4 Dl (.lst (xs ++ [x])))) Dl) := fun b o hb => by
        by_cases z : b = Dl
        · rw [z, del_self] at hb
          cases hb
        · rw [del_ne z] at hb ⊢
          unfold Nw at hb ⊢
          by_cases y : H1 b = none
          · rw [if_pos y] at hb ⊢
            rw [upd_ne z]
            exact e4 _ _ hb
          · rw [if_neg y] at hb
            cases hb
      have s2 : Ex (Nw H' H4) (del (Nw H1 (upd H4 Dl (.lst (xs ++ [x])))) Dl) := fun b o hb => by
        unfold Nw at hb
        by_cases y : H' b = none
        · rw [if_pos y] at hb
          have z : b ≠ Dl := fun z => by
            rw [z, k1] at y
            cases y
          rw [del_ne z]
          refine nw_at ?_ (fresh_back eH y)
          rw [upd_ne z]
          exact hb
        · rw [if_neg y] at hb
          cases hb
      rw [List.range_succ, List.map_append]
      exact dpAll_snoc (dpAll_ex s1 _ _ k2) (dpx s2 hx)
  · obtain ⟨eH, xs, k1, k2⟩ := hP
    have s3 : Ex (del (Nw H1 H') Dl) (Nw H0 H') := fun b o hb => by
      have hb := del_sub _ _ hb
      unfold Nw at hb
      by_cases y : H1 b = none
      · rw [if_pos y] at hb
        exact nw_at hb (fresh_back e1 y)
      · rw [if_neg y] at hb
        cases hb
    exact q _ H' (e1.trans eH) (.lst (sq_of (nw_at k1 (fresh_back e1 hD))) (dpAll_ex s3 _ _ k2))⟩
/-- for x in a list of data -/
theorem s_forDD {j : Nat} {ds : List PyData} (h : EvD K tl σ H (.list ds)) (Pv : Hp → Nat → L2.St → Hp → Prop) (h0 : ∀ H1, Ex H H1 → Pv H1 0 σ H1) (hl : ∀ H1 i σ' H', Pv H1 i σ' H' → Ex H1 H')
    (hs : ∀ H1 (i : Nat) v d σ' H', Ex H H1 → ds[i]? = some d → Pv H1 i σ' H' → Dp K H' v d → tu { D with nx := Pv H1 (i + 1), ct := Pv H1 (i + 1), bk := D.nx } (σ'.set j (some v)) H') (hd : ∀ H1 σ' H', Ex H H1 → Pv H1 ds.length σ' H' → D.nx σ' H') : tFor (iList K tl) (gName j) tu D σ H :=
  h H (Ex.refl H) _ fun w H1 e hw => by
    cases hw with
    | lst sq all =>
      rename_i a xs
      refine ⟨a, rfl, ⟨xs, sq⟩, for_list (Pv H1) (h0 H1 e) (fun i σ' H' _ p => ex_l (hl _ _ _ _ p) sq) (fun i x σ' H' hi p => ?_) (fun σ' H' p => by rw [dpAll_len all] at p; exact hd H1 σ' H' e p)⟩
      have hlt : i < ds.length := by rw [← dpAll_len all]; exact (List.getElem?_eq_some_iff.mp hi).1
      obtain ⟨y, h2, h3⟩ := dpAll_get all (List.getElem?_eq_getElem hlt)
      rw [hi] at h2
      cases h2
      exact hs H1 i x _ σ' H' e (List.getElem?_eq_getElem hlt) p (dpx (hl _ _ _ _ p) h3)
/-- for x in a new list of new lists -/
theorem q_forNL2 {j : Nat} (h : Ev tl σ H v) (hv : NL B H v nss) (Pv : Nat → L2.St → Hp → Prop) (h0 : ∀ H1, Ex H H1 → Pv 0 σ H1) (hl : ∀ i σ' H', Pv i σ' H' → Ex H H')
    (hs : ∀ (i : Nat) (b : Addr) (ns : List Int) σ' H', nss[i]? = some ns → Pv i σ' H' → H' b = some (.lst (ns.map V.int)) → tu { D with nx := Pv (i + 1), ct := Pv (i + 1), bk := tz D } (σ'.set j (some (.ref b))) H') (hd : ∀ σ' H', Pv nss.length σ' H' → tz D σ' H') : tSeq (tFor (iList K tl) (gName j) tu) tz D σ H :=
  h H (Ex.refl H) _ fun H1 e => by
    obtain ⟨a, as, rfl, b1, b2, b3⟩ := hv
    refine ⟨a, rfl, ⟨_, sq_of (e _ _ b2)⟩, for_list (D := { D with nx := tz D }) (xs := as.map V.ref) Pv (h0 H1 e) (fun i σ' H' _ p => ?_) (fun i x σ' H' hi p => ?_) (fun σ' H' p => by rw [List.length_map, Paired.length b3] at p; exact hd σ' H' p)⟩
    · exact sq_of ((hl _ _ _ p) _ _ b2)
    · obtain ⟨b, ns, rfl, h1, h2⟩ : ∃ b ns, x = .ref b ∧ nss[i]? = some ns ∧ H b = some (.lst (ns.map V.int)) := by
        rw [List.getElem?_map] at hi
        cases hb : as[i]? with
        | none =>
          rw [hb] at hi
          cases hi
        | some b =>
          rw [hb] at hi
          obtain ⟨ns, h3, h4⟩ := paired_get b3 hb
          exact ⟨b, ns, (Option.some.inj hi).symm, h3, h4.2⟩
      exact hs i b ns σ' H' h1 p ((hl _ _ _ p) _ _ h2)
end
/-- a promise of new data -/
def spN (K : PySem.W.Frag) (N : List PyData → PyData → Prop) : Sp := fun vs H Q _ => ∃ ds d, DpAll K H vs ds ∧ N ds d ∧ ∀ v H', Ex H H' → Dp K (Nw H H') v d → Q v H'
theorem evN_cd {K : PySem.W.Frag} {σ : L2.St} {H : Hp} {N : List PyData → PyData → Prop} {E : XK} {ta : TA} {ds : List PyData} {d : PyData} (h : EvDA K ta σ H ds) (hN : N ds d) : EvN K (tCall (spN K N) [] E ta) σ H d := fun H1 e Q q =>
  h H1 e _ fun vs H2 e2 hv => ⟨ds, d, by rw [List.append_nil]; exact hv, hN, fun v H3 e3 h3 => q v H3 (e2.trans e3) (dpx (fun b o hb => by
    unfold Nw at hb
    by_cases y : H2 b = none
    · rw [if_pos y] at hb
      exact nw_at hb (fresh_back e2 y)
    · rw [if_neg y] at hb
      cases hb) h3)⟩
end RF
namespace RF
open PySem PySem.Spec PyProof.Rows L2 Evl
section
variable {K : PySem.W.Frag} {σ : L2.St} {B B' H : Hp} {te : TE} {D : Ends} {tz : TS} {v : V} {nss : List (List Int)}
theorem NL.base (h : NL B' H v nss) (e : Ex B B') : NL B H v nss := by
  obtain ⟨a, as, h1, h2, h3, h4⟩ := h
  exact ⟨a, as, h1, fresh_back e h2, h3, Paired.mapP h4 fun b ns z => ⟨fresh_back e z.1, z.2⟩⟩
theorem q_asgNL {i : Nat} (h : EvNL te σ H nss) (k : ∀ v H1, Ex H H1 → NL H H1 v nss → tz D (σ.set i (some v)) H1) : tSeq (tAsg te (gName i)) tz D σ H := h H (Ex.refl H) _ fun v H1 e hv => k v H1 e hv
end
def allD (p : Int) (k : Nat) : PyData := .list ((allR p k).map dl)
def N__law_all_ (xs : List PyData) (d : PyData) : Prop := ∃ (p long : Int), xs = [.int p, .int long] ∧ 2 ≤ p ∧ p ≤ 97 ∧ 0 ≤ long ∧ long ≤ 40 ∧ pw p long.toNat ≤ 1000 ∧ d = allD p long.toNat
def F__law_least (xs : List PyData) (v : V) : Prop := ∃ (p : Int) (row : List Int) (N L : Nat), xs = [.int p, dl row, .list ((List.range (N + 1)).map (allD p))] ∧ 0 < p ∧ p ≤ 97 ∧ Nums p row ∧ row.length ≤ N ∧ N ≤ 40 ∧ Least p row L ∧ v = .int (L : Int)
end RF

namespace RF
open PySem PySem.Spec PyProof.Rows L2 Evl

/-! ### the walk's small steps: walk_at with words of our own -/
local macro_rules | `(tactic| walk_at "ex") => `(tactic| first | exact Ex.refl _ | assumption | ((refine Ex.trans ?_ (by assumption)); walk_at "ex"))
local macro_rules | `(tactic| walk_at "at") => `(tactic| first | assumption | exact upd_same | ((refine ex_at (by assumption) ?_); walk_at "at"))
local macro_rules | `(tactic| walk_at "dp") => `(tactic| first | assumption | ((refine dpx ?_ (by assumption)); walk_at "ex") | ((with_reducible apply dp_lst); walk_at "at"))
local macro_rules | `(tactic| walk_at "sd") => `(tactic| first | with_reducible assumption | omega | assumption | decide | (constructor <;> omega) | exact Or.inl ⟨by omega, by omega⟩ | exact Or.inr ⟨by omega, by omega⟩ | ((simp only [List.length_take, List.length_drop, List.length_append, List.length_map, List.length_range, List.length_cons, List.length_nil, List.length_set, List.length_reverse]); omega))
local macro_rules | `(tactic| walk_at "cv") => `(tactic| fail "cv")
local macro_rules | `(tactic| walk_at "kit") => `(tactic| first | exact (show kitB _ _ = some true by decide +kernel) | exact (show kitB _ _ = some false by decide +kernel))
local macro_rules | `(tactic| walk_at "sh") => `(tactic| first | exact shaped_dl _ | exact shaped_2 _ _)
local macro_rules | `(tactic| walk_at "rv") => `(tactic| first
  | with_reducible exact rv_I0
  | ((with_reducible apply rv_I); walk_at "sd")
  | exact rv_eqI
  | exact rv_neI
  | exact rv_eqB
  | exact rv_neB
  | exact rv_eqS
  | exact rv_neS
  | with_reducible exact rv_notInS
  | with_reducible exact rv_isN
  | ((with_reducible apply rv_addS); walk_at "sd"))
local macro_rules | `(tactic| walk_at "ea") => `(tactic| first
  | with_reducible exact ea_nil
  | ((with_reducible apply ea_cons); (walk_at "ev"); (walk_at "ea")))
local macro_rules | `(tactic| walk_at "eo") => `(tactic| first
  | with_reducible exact eo_none
  | ((with_reducible apply eo_some); (walk_at "ev")))
local macro_rules | `(tactic| walk_at "ed") => `(tactic| first
  | ((with_reducible apply evd_i); (walk_at "ev"))
  | ((with_reducible apply evd_v); (walk_at "ev"); (walk_at "dp"))
  | ((with_reducible apply evd_l); (walk_at "el"))
  | ((with_reducible apply ed_ix); (walk_at "ed"); (walk_at "ev"); (walk_at "sd"); (exact rfl))
  | ((with_reducible apply ed_tix); (walk_at "ed"); (walk_at "ev"); (walk_at "sd"); (exact rfl))
  | ((with_reducible apply ed_lst); (walk_at "eda"); (walk_at "sd"))
  | ((with_reducible apply evd_b); (walk_at "ev"))
  | ((with_reducible apply evd_s); (walk_at "ev")))
local macro_rules | `(tactic| walk_at "eda") => `(tactic| first
  | with_reducible exact evd_nil
  | ((with_reducible apply evd_cons); (walk_at "ed"); (walk_at "eda")))
local macro_rules | `(tactic| walk_at "evx") => `(tactic| first
  | ((with_reducible apply evx_v); (walk_at "ev"); (walk_at "at"))
  | ((with_reducible apply evx_l); (walk_at "el")))
local macro_rules | `(tactic| walk_at "ev") => `(tactic| first
  | with_reducible exact ev_c
  | ((with_reducible apply ev_var); rfl)
  | ((with_reducible apply ev_ix); (walk_at "ed"); (walk_at "ev"); (walk_at "sd"); (walk_at "sd"))
  | ((with_reducible apply ev_ixl); (walk_at "ed"); (walk_at "ev"); (walk_at "sd"))
  | ((with_reducible apply ev_op); (walk_at "ev"); (walk_at "ev"); (walk_at "rv"))
  | ((with_reducible apply ev_un); (walk_at "ev"); (exact ru_neg))
  | ((with_reducible apply ev_lenD); (walk_at "ed"))
  | ((with_reducible apply ev_lenS); (walk_at "ev"); (walk_at "sd"))
  | ((with_reducible apply ev_strI); (walk_at "ev"); (walk_at "sd"))
  | ((with_reducible apply ev_cd); (walk_at "eda"); (walk_at "cv"))
  | ((with_reducible apply ev_sumD); (walk_at "ed"))
  | ((with_reducible apply ev_allN); (walk_at "el"))
  | ((with_reducible apply ev_max2); (walk_at "ev"); (walk_at "ev"))
  | ((with_reducible apply ev_min2); (walk_at "ev"); (walk_at "ev"))
  | ((with_reducible apply ev_intb); (walk_at "ev"))
  | ((with_reducible apply ev_chainI); (walk_at "ev"); (walk_at "ev"); (walk_at "ev"))
  | ((with_reducible apply ev_notV); (walk_at "ev"))
  | ((with_reducible apply ev_isiI); (walk_at "ev"); (walk_at "kit"))
  | ((with_reducible apply ev_isiB); (walk_at "ev"); (walk_at "kit"))
  | ((with_reducible apply ev_isiS); (walk_at "ev"); (walk_at "kit"))
  | ((with_reducible apply ev_isiL); (walk_at "ed"); (walk_at "kit"))
  | ((with_reducible apply ev_andV); (walk_at "ev"); (intro _; walk_at "ev"))
  | ((with_reducible apply ev_orV); (walk_at "ev"); (intro _; walk_at "ev"))
  | ((with_reducible apply ev_neD); (walk_at "ed"); (walk_at "ed"); (walk_at "sh"); (walk_at "sh"))
  | ((with_reducible apply ev_eqD); (walk_at "ed"); (walk_at "ed"); (walk_at "sh"); (walk_at "sh")))
local macro_rules | `(tactic| walk_at "et") => `(tactic| first
  | ((with_reducible apply et_test); (walk_at "ev"))
  | ((with_reducible apply et_B); (walk_at "ev"))
  | ((with_reducible apply et_and); (walk_at "et"); (intro _; walk_at "et"))
  | ((with_reducible apply et_or); (walk_at "et"); (intro _; walk_at "et"))
  | ((with_reducible apply et_not); (walk_at "et")))
local macro_rules | `(tactic| walk_at "el") => `(tactic| first
  | ((with_reducible apply el_listD); (walk_at "ed"))
  | ((with_reducible apply el_cd); (walk_at "eda"); (walk_at "cv"))
  | ((with_reducible apply el_to); (walk_at "ed"); (walk_at "ev"); (walk_at "sd"); (walk_at "sd"))
  | ((with_reducible apply el_from); (walk_at "ed"); (walk_at "ev"); (walk_at "sd"); (walk_at "sd"))
  | ((with_reducible apply el_init); (walk_at "ed"); (walk_at "ev"); (walk_at "sd"))
  | ((with_reducible apply el_revL); (walk_at "ed"))
  | ((with_reducible apply el_slD); (walk_at "ed"); (walk_at "eo"); (walk_at "eo"))
  | ((with_reducible apply el_cat); (walk_at "evx"); (walk_at "evx"); (walk_at "sd"))
  | with_reducible exact el_nil
  | ((with_reducible apply el_one); (walk_at "ev"))
  | ((with_reducible apply el_r1); (walk_at "ea"); (walk_at "sd"); (intro _; rfl); (intro i H1 e1 hi; walk_at "ev"))
  | ((with_reducible apply el_li); (walk_at "ed"); (walk_at "sd"); (intro _; rfl); (intro x H1 e1 hi; walk_at "ev")))

def topS (i : Nat) : Stmt := PySem.Challenge.pw_rulefound_k04_lengths_by_all_rules.main.body.getD i (.Pass ⟨0, 0, 0, 0⟩)
abbrev s__law_next : Stmt := topS 20
abbrev N__law_next : List PySem.Str := ["seed"]
theorem sc__law_next : FnScope N__law_next ["seed"] (defScope s__law_next) := ⟨rfl, rfl, rfl, by decide +kernel, rfl, by decide +kernel, by decide +kernel⟩
abbrev s__law_numbers : Stmt := topS 21
abbrev N__law_numbers : List PySem.Str := ["p", "many", "cell", "found", "k"]
theorem sc__law_numbers : FnScope N__law_numbers ["p", "many", "cell"] (defScope s__law_numbers) := ⟨rfl, rfl, rfl, by decide +kernel, rfl, by decide +kernel, by decide +kernel⟩
abbrev s_is_prime : Stmt := topS 6
abbrev N_is_prime : List PySem.Str := ["p", "k"]
theorem sc_is_prime : FnScope N_is_prime ["p"] (defScope s_is_prime) := ⟨rfl, rfl, rfl, by decide +kernel, rfl, by decide +kernel, by decide +kernel⟩
abbrev s_ask_prime : Stmt := topS 7
abbrev N_ask_prime : List PySem.Str := ["p"]
theorem sc_ask_prime : FnScope N_ask_prime ["p"] (defScope s_ask_prime) := ⟨rfl, rfl, rfl, by decide +kernel, rfl, by decide +kernel, by decide +kernel⟩
abbrev s_are_numbers : Stmt := topS 8
abbrev N_are_numbers : List PySem.Str := ["p", "some", "number"]
theorem sc_are_numbers : FnScope N_are_numbers ["p", "some"] (defScope s_are_numbers) := ⟨rfl, rfl, rfl, by decide +kernel, rfl, by decide +kernel, by decide +kernel⟩
abbrev s_ask_row : Stmt := topS 9
abbrev N_ask_row : List PySem.Str := ["p", "row"]
theorem sc_ask_row : FnScope N_ask_row ["p", "row"] (defScope s_ask_row) := ⟨rfl, rfl, rfl, by decide +kernel, rfl, by decide +kernel, by decide +kernel⟩
abbrev s_fault : Stmt := topS 14
abbrev N_fault : List PySem.Str := ["p", "row", "test", "place", "k"]
theorem sc_fault : FnScope N_fault ["p", "row", "test", "place"] (defScope s_fault) := ⟨rfl, rfl, rfl, by decide +kernel, rfl, by decide +kernel, by decide +kernel⟩
abbrev s_held_at : Stmt := topS 12
abbrev N_held_at : List PySem.Str := ["some", "place"]
theorem sc_held_at : FnScope N_held_at ["some", "place"] (defScope s_held_at) := ⟨rfl, rfl, rfl, by decide +kernel, rfl, by decide +kernel, by decide +kernel⟩
abbrev s_mended : Stmt := topS 13
abbrev N_mended : List PySem.Str := ["p", "test", "older", "scale", "shift", "long", "found", "place", "less"]
theorem sc_mended : FnScope N_mended ["p", "test", "older", "scale", "shift"] (defScope s_mended) := ⟨rfl, rfl, rfl, by decide +kernel, rfl, by decide +kernel, by decide +kernel⟩
abbrev s_inverse : Stmt := topS 11
abbrev N_inverse : List PySem.Str := ["p", "number", "found", "k"]
theorem sc_inverse : FnScope N_inverse ["p", "number"] (defScope s_inverse) := ⟨rfl, rfl, rfl, by decide +kernel, rfl, by decide +kernel, by decide +kernel⟩
abbrev s_found_by : Stmt := topS 15
abbrev N_found_by : List PySem.Str := ["p", "row", "test", "older", "past", "shift", "longs", "jump", "place", "here", "long", "fresh"]
theorem sc_found_by : FnScope N_found_by ["p", "row"] (defScope s_found_by) := ⟨rfl, rfl, rfl, by decide +kernel, rfl, by decide +kernel, by decide +kernel⟩
abbrev s_lengths : Stmt := topS 16
abbrev N_lengths : List PySem.Str := ["p", "row"]
theorem sc_lengths : FnScope N_lengths ["p", "row"] (defScope s_lengths) := ⟨rfl, rfl, rfl, by decide +kernel, rfl, by decide +kernel, by decide +kernel⟩
abbrev s__law_whole : Stmt := topS 19
abbrev N__law_whole : List PySem.Str := ["found"]
theorem sc__law_whole : FnScope N__law_whole ["found"] (defScope s__law_whole) := ⟨rfl, rfl, rfl, by decide +kernel, rfl, by decide +kernel, by decide +kernel⟩
abbrev s__law_alike : Stmt := topS 25
abbrev N__law_alike : List PySem.Str := ["found", "due", "k"]
theorem sc__law_alike : FnScope N__law_alike ["found", "due"] (defScope s__law_alike) := ⟨rfl, rfl, rfl, by decide +kernel, rfl, by decide +kernel, by decide +kernel⟩
abbrev s__law_cell_at : Stmt := topS 18
abbrev N__law_cell_at : List PySem.Str := ["script", "k"]
theorem sc__law_cell_at : FnScope N__law_cell_at ["script", "k"] (defScope s__law_cell_at) := ⟨rfl, rfl, rfl, by decide +kernel, rfl, by decide +kernel, by decide +kernel⟩
abbrev s__law_all : Stmt := topS 26
abbrev N__law_all : List PySem.Str := ["p", "long", "found", "k", "longer", "rule", "number"]
theorem sc__law_all : FnScope N__law_all ["p", "long"] (defScope s__law_all) := ⟨rfl, rfl, rfl, by decide +kernel, rfl, by decide +kernel, by decide +kernel⟩
abbrev s__law_tells : Stmt := topS 22
abbrev N__law_tells : List PySem.Str := ["p", "row", "rule", "total", "k"]
theorem sc__law_tells : FnScope N__law_tells ["p", "row", "rule"] (defScope s__law_tells) := ⟨rfl, rfl, rfl, by decide +kernel, rfl, by decide +kernel, by decide +kernel⟩
abbrev s__law_goes : Stmt := topS 23
abbrev N__law_goes : List PySem.Str := ["p", "row", "rule", "n"]
theorem sc__law_goes : FnScope N__law_goes ["p", "row", "rule"] (defScope s__law_goes) := ⟨rfl, rfl, rfl, by decide +kernel, rfl, by decide +kernel, by decide +kernel⟩
abbrev s__law_least : Stmt := topS 27
abbrev N__law_least : List PySem.Str := ["p", "row", "rules", "long", "rule"]
theorem sc__law_least : FnScope N__law_least ["p", "row", "rules"] (defScope s__law_least) := ⟨rfl, rfl, rfl, by decide +kernel, rfl, by decide +kernel, by decide +kernel⟩
abbrev s_law : Stmt := topS 28
abbrev N_law : List PySem.Str := ["script", "way", "p", "row", "rules", "due", "handed", "found", "long", "n"]
theorem sc_law : FnScope N_law ["script"] (defScope s_law) := ⟨rfl, rfl, rfl, by decide +kernel, rfl, by decide +kernel, by decide +kernel⟩
structure Txt (K : PySem.W.Frag) (mg : PySem.Str → Option Value) : Prop where
  d__law_next : DefAt K mg "_law_next" s__law_next ["seed"]
  d__law_numbers : DefAt K mg "_law_numbers" s__law_numbers ["p", "many", "cell"]
  d_is_prime : DefAt K mg "is_prime" s_is_prime ["p"]
  d_ask_prime : DefAt K mg "ask_prime" s_ask_prime ["p"]
  d_are_numbers : DefAt K mg "are_numbers" s_are_numbers ["p", "some"]
  d_ask_row : DefAt K mg "ask_row" s_ask_row ["p", "row"]
  d_fault : DefAt K mg "fault" s_fault ["p", "row", "test", "place"]
  d_held_at : DefAt K mg "held_at" s_held_at ["some", "place"]
  d_mended : DefAt K mg "mended" s_mended ["p", "test", "older", "scale", "shift"]
  d_inverse : DefAt K mg "inverse" s_inverse ["p", "number"]
  d_found_by : DefAt K mg "found_by" s_found_by ["p", "row"]
  d_lengths : DefAt K mg "lengths" s_lengths ["p", "row"]
  d__law_whole : DefAt K mg "_law_whole" s__law_whole ["found"]
  d__law_alike : DefAt K mg "_law_alike" s__law_alike ["found", "due"]
  d__law_cell_at : DefAt K mg "_law_cell_at" s__law_cell_at ["script", "k"]
  d__law_all : DefAt K mg "_law_all" s__law_all ["p", "long"]
  d__law_tells : DefAt K mg "_law_tells" s__law_tells ["p", "row", "rule"]
  d__law_goes : DefAt K mg "_law_goes" s__law_goes ["p", "row", "rule"]
  d__law_least : DefAt K mg "_law_least" s__law_least ["p", "row", "rules"]
  d_law : DefAt K mg "law" s_law ["script"]
  z_all : mg "all" = none
  z_range : mg "range" = none
  z_len : mg "len" = none
  z_max : mg "max" = none
  z_sum : mg "sum" = none
  z_isinstance : mg "isinstance" = none
  z_int : mg "int" = none
  z_bool : mg "bool" = none
  z_list : mg "list" = none
  c_MOST : ∃ t, mg "MOST" = some (.int 30 t)
section
variable {P : Program} {w : World} {K : PySem.W.Frag} {mg : PySem.Str → Option Value} {base : Heap}
def F__law_next (ds : List PyData) (v : V) : Prop := ∃ (seed : Int), ds = [.int seed] ∧ v = .int (lawNext seed)
theorem ok__law_next (T : Txt K mg) : DefOk P w K mg base CX0 1 "_law_next" ["seed"] (spF K F__law_next) := by
  refine T.d__law_next.ok sc__law_next (fun vs H Q E h => ?_) (fun f cdv A outer s H vs Q E hr h => ?_)
  · obtain ⟨ds, v, hd, ⟨seed, rfl, _⟩, _⟩ := h
    exact dpAll_len hd
  · obtain ⟨ds, v, hd, ⟨seed, rfl, rfl⟩, q⟩ := h
    obtain ⟨v_seed, rfl, d_seed⟩ := args1 hd
    obtain rfl := dp_int d_seed
    refine ⟨_, (pss_cons (ps_set (i := 0) sc__law_next.nd rfl (.inl rfl) (pe_op op_mod (pe_op op_add (pv 0) pe_int) pe_int))
      (pss_one (ps_ret (pe_op op_mod (pe_op op_add (pe_op op_add (pe_op op_mul (pv 0) (pv 0)) (pe_op op_mul pe_int (pv 0))) pe_int) pe_int)))), ?_⟩
    rw [show start N__law_next [.int seed] = [some (.int seed)] from rfl]
    refine q_asg (by walk_at "ev") fun H1 e1 => ?_
    exact s_ret (ev_is (by walk_at "ev") (by rfl)) fun H2 e2 => q H2 (by walk_at "ex")
local macro_rules | `(tactic| walk_at "cv") => `(tactic| focus ((with_reducible show F__law_next _ _); exact ⟨_, rfl, rfl⟩))
def F__law_numbers (ds : List PyData) (v : List Int) : Prop := ∃ (p : Int) (many : Int) (cell : Int), ds = [.int p, .int many, .int cell] ∧ (0 < p) ∧ (0 ≤ many) ∧ (many ≤ 1000) ∧ v = lawNums p many cell
theorem ok__law_numbers (T : Txt K mg) : DefOk P w K mg base CX0 2 "_law_numbers" ["p", "many", "cell"] (spG K F__law_numbers) := by
  refine T.d__law_numbers.ok sc__law_numbers (fun vs H Q E h => ?_) (fun f cdv A outer s H vs Q E hr h => ?_)
  · obtain ⟨ds, v, hd, ⟨p, many, cell, rfl, _⟩, _⟩ := h
    exact dpAll_len hd
  · obtain ⟨ds, v, hd, ⟨p, many, cell, rfl, hp, h0, hm, rfl⟩, q⟩ := h
    obtain ⟨v_p, v_many, v_cell, rfl, d_p, d_many, d_cell⟩ := args3 hd
    obtain rfl := dp_int d_p
    obtain rfl := dp_int d_many
    obtain rfl := dp_int d_cell
    have D__law_next := ok__law_next (P := P) (w := w) (base := base) T
    refine ⟨_, (pss_cons (ps_set (i := 3) sc__law_numbers.nd rfl (.inl rfl) (pe_lst pa_nil))
      (pss_cons (ps_for PassesOwn.never rfl (pi_range1 (by rfl) T.z_range (pa_cons (pv 1) pa_nil)) (pg_name (i := 4) sc__law_numbers.nd rfl (.inl rfl))
      (pss_cons (ps_set (i := 2) sc__law_numbers.nd rfl (.inl rfl) (pe_cd D__law_next (hr.mono (by omega)) (by rfl) (pa_cons (pe_op op_add (pe_op op_mod (pv 2) pe_int) (pe_op op_mul pe_int (pv 4))) pa_nil)))
      (pss_one (ps_expr (pe_bm PySem.F.plainAttrs_list PySem.F.slot_list_append PySem.F.type_list_append mt_append (pv 3) (pa_cons (pe_op op_mod (pe_op op_fdiv (pv 2) pe_int) (pv 0)) pa_nil))))))
      (pss_one (ps_ret (pv 3))))), ?_⟩
    rw [show start N__law_numbers [.int p, .int many, .int cell] = [some (.int p), some (.int many), some (.int cell), none, none] from rfl]
    refine q_asgL el_nil fun f H1 hf e1 h1 => ?_
    refine q_forR1 (n := many) (by walk_at "ea") ⟨h0, by omega⟩ (fun i σ' H' => ∃ y, σ' = [some (.int p), some (.int many), some (.int (numCell cell i)), some (.ref f), y] ∧ Ex H H' ∧ H' f = some (.lst ((lawNumsN p cell i).map V.int)))
      (fun H2 e2 => ⟨_, rfl, by walk_at "ex", by walk_at "at"⟩) (fun i σ' H' hi hP => ?_) (fun σ' H' hP => ?_)
    · obtain ⟨y, rfl, eH, hF⟩ := hP
      refine q_asg (by walk_at "ev") fun H2 e2 => ?_
      refine s_appI (by walk_at "at") (by walk_at "ev") (by walk_at "ev") (by unfold lawNumsN; walk_at "sd") fun H3 e3 => ?_
      refine ⟨_, rfl, Ex.mut (by walk_at "ex") hf, ?_⟩
      rw [lawNumsN_succ]
      exact upd_same
    · obtain ⟨y, rfl, eH, hF⟩ := hP
      exact s_ret (by walk_at "ev") fun H2 e2 => q f H2 hf (by walk_at "ex") (by walk_at "at")
local macro_rules | `(tactic| walk_at "cv") => `(tactic| focus ((with_reducible show F__law_numbers _ _); refine ⟨_, _, _, rfl, ?_, ?_, ?_, rfl⟩ <;> walk_at "sd"))
def F_is_prime (ds : List PyData) (v : V) : Prop := ∃ (p : Int), ds = [.int p] ∧ v = .bl (isPrime p)
theorem ok_is_prime (T : Txt K mg) : DefOk P w K mg base CX0 1 "is_prime" ["p"] (spF K F_is_prime) := by
  refine T.d_is_prime.ok sc_is_prime (fun vs H Q E h => ?_) (fun f cdv A outer s H vs Q E hr h => ?_)
  · obtain ⟨ds, v, hd, ⟨p, rfl, _⟩, _⟩ := h
    exact dpAll_len hd
  · obtain ⟨ds, v, hd, ⟨p, rfl, rfl⟩, q⟩ := h
    obtain ⟨v_p, rfl, d_p⟩ := args1 hd
    obtain rfl := dp_int d_p
    refine ⟨_, (pss_cons (ps_if (pt_not (pt_chain op_le op_le pe_int (pv 0) pe_int))
      (pss_one (ps_ret pe_bl))
      pss_nil)
      (pss_one (ps_ret (pe_callB (cl_all (K := K) rfl rfl) (by rfl) T.z_all (by decide +kernel) (pa_cons (pe_lc (own := [("k", 1)]) (g := gName 1) rfl sc_is_prime.nd (pi_range2 (by rfl) T.z_range (pa_cons pe_int (pa_cons (pv 0) pa_nil))) (blkOk_by (own := [("k", 1)]) (N := N_is_prime) (sc := defScope s_is_prime) (by decide +kernel)) (fun _ _ _ _ _ => pg_name (i := 1) sc_is_prime.nd rfl (Or.inl rfl)) (fun _ _ _ _ _ => (pts_one (pt_cmpR op_le (pe_op op_mul (pv 1) (pv 1)) (pv 0) (nomark _)))) (fun _ _ _ _ _ => (pe_cmpR op_ne (pe_op op_mod (pv 0) (pv 1)) pe_int (nomark _)))) pa_nil))))), ?_⟩
    rw [show start N_is_prime [.int p] = [some (.int p), none] from rfl]
    refine q_when (b := !(decide (2 ≤ p) && decide (p ≤ 97))) (by walk_at "et") (fun hb H1 e1 => ?_) (fun hb H1 e1 => ?_)
    · have e : isPrime p = false := by
        unfold isPrime
        rw [if_neg]
        rw [Bool.not_eq_true'] at hb
        rw [hb]
        exact Bool.false_ne_true
      rw [e] at q
      exact s_ret (by walk_at "ev") fun H2 e2 => q H2 (by walk_at "ex")
    · have hb' : (decide (2 ≤ p) && decide (p ≤ 97)) = true := by
        cases h : (decide (2 ≤ p) && decide (p ≤ 97)) with
        | true => rfl
        | false =>
          rw [h] at hb
          cases hb
      have hp : 2 ≤ p ∧ p ≤ 97 := by
        rw [Bool.and_eq_true, decide_eq_true_eq, decide_eq_true_eq] at hb'
        exact hb'
      refine s_ret (v := .bl (isPrime p)) ?_ (fun H2 e2 => q H2 (by walk_at "ex"))
      have e : isPrime p = ((((List.range (p - 2).toNat).filter fun (i : Nat) => decide (((2 : Int) + (i : Int)) * (2 + (i : Int)) ≤ p)).map fun (i : Nat) => !decide (p % (2 + (i : Int)) = 0))).all id := by
        unfold isPrime
        rw [if_pos hb']
      rw [e]
      refine ev_allN ?_
      rw [List.map_map]
      refine el_lcR2 (fun (i : Nat) => decide (((2 : Int) + (i : Int)) * (2 + (i : Int)) ≤ p)) (fun (i : Nat) => V.bl (!decide (p % (2 + (i : Int)) = 0))) (by walk_at "ea") (by omega) (fun _ => rfl) (fun i H2 e2 hi => by walk_at "et") (fun i H2 e2 hi _ => ?_)
      have h2 : (0 : Int) < 2 + (i : Int) := by omega
      walk_at "ev"
local macro_rules | `(tactic| walk_at "cv") => `(tactic| focus ((with_reducible show F_is_prime _ _); exact ⟨_, rfl, rfl⟩))
def F_ask_prime (ds : List PyData) (v : V) : Prop := ∃ (p : Int), ds = [.int p] ∧ (isPrime p = true) ∧ v = .non
theorem ok_ask_prime (T : Txt K mg) : DefOk P w K mg base CX0 2 "ask_prime" ["p"] (spF K F_ask_prime) := by
  refine T.d_ask_prime.ok sc_ask_prime (fun vs H Q E h => ?_) (fun f cdv A outer s H vs Q E hr h => ?_)
  · obtain ⟨ds, v, hd, ⟨p, rfl, _⟩, _⟩ := h
    exact dpAll_len hd
  · obtain ⟨ds, v, hd, ⟨p, rfl, hp, rfl⟩, q⟩ := h
    obtain ⟨v_p, rfl, d_p⟩ := args1 hd
    obtain rfl := dp_int d_p
    have D_is_prime := ok_is_prime (P := P) (w := w) (base := base) T
    refine ⟨_, (pss_one (ps_if (pt_not (pt_val (pe_cd D_is_prime (hr.mono (by omega)) (by rfl) (pa_cons (pv 0) pa_nil))))
      (pss_one ps_never)
      pss_nil)), ?_⟩
    rw [show start N_ask_prime [.int p] = [some (.int p)] from rfl]
    refine s_when (b := !(isPrime p)) (by walk_at "et") (fun hb H1 e1 => ?_) (fun hb H1 e1 => q H1 (by walk_at "ex"))
    rw [hp] at hb
    cases hb
local macro_rules | `(tactic| walk_at "cv") => `(tactic| focus ((with_reducible show F_ask_prime _ _); refine ⟨_, rfl, ?_, rfl⟩ <;> walk_at "sd"))
def F_are_numbers (ds : List PyData) (v : V) : Prop := ∃ (p : Int) (sm : List Int), ds = [.int p, dl sm] ∧ (sm.length ≤ 40000) ∧ v = .bl (areNums p sm)
theorem ok_are_numbers (T : Txt K mg) : DefOk P w K mg base CX0 1 "are_numbers" ["p", "some"] (spF K F_are_numbers) := by
  refine T.d_are_numbers.ok sc_are_numbers (fun vs H Q E h => ?_) (fun f cdv A outer s H vs Q E hr h => ?_)
  · obtain ⟨ds, v, hd, ⟨p, sm, rfl, _⟩, _⟩ := h
    exact dpAll_len hd
  · obtain ⟨ds, v, hd, ⟨p, sm, rfl, hl, rfl⟩, q⟩ := h
    obtain ⟨v_p, v_sm, rfl, d_p, d_sm⟩ := args2 hd
    obtain rfl := dp_int d_p
    refine ⟨_, (pss_one (ps_ret (pe_and (pe_cmpR op_le (pe_callB (cl_len (K := K) rfl) (by rfl) T.z_len PySem.boot_len (pa_cons (pv 1) pa_nil)) (pe_gi (by rfl) T.c_MOST) (nomark _)) (pe_one (pe_callB (cl_all (K := K) rfl rfl) (by rfl) T.z_all (by decide +kernel) (pa_cons (pe_lc (own := [("number", 2)]) (g := gName 2) (tt := tYes) rfl sc_are_numbers.nd (pi_list (pv 1)) (blkOk_by (own := [("number", 2)]) (N := N_are_numbers) (sc := defScope s_are_numbers) (by decide +kernel)) (fun _ _ _ _ _ => pg_name (i := 2) sc_are_numbers.nd rfl (Or.inl rfl)) (fun _ _ _ _ _ => pts_nil) (fun _ _ _ _ _ => (pe_chain op_le op_lt pe_int (pv 2) (pv 0)))) pa_nil)))))), ?_⟩
    rw [show start N_are_numbers [.int p, v_sm] = [some (.int p), some v_sm, none] from rfl]
    refine s_ret (v := .bl (areNums p sm)) ?_ (fun H2 e2 => q H2 (by walk_at "ex"))
    unfold areNums
    refine ev_andV (by walk_at "ev") (fun _ => ?_)
    refine ev_allN ?_
    rw [List.map_map]
    refine el_li (fun x => V.bl (decide (0 ≤ x) && decide (x < p))) (by walk_at "ed") hl (fun _ => rfl) (fun x H1 e1 hx => ?_)
    walk_at "ev"
local macro_rules | `(tactic| walk_at "cv") => `(tactic| focus ((with_reducible show F_are_numbers _ _); refine ⟨_, _, rfl, ?_, rfl⟩ <;> walk_at "sd"))
def F_ask_row (ds : List PyData) (v : V) : Prop := ∃ (p : Int) (row : List Int), ds = [.int p, dl row] ∧ (isPrime p = true) ∧ (areNums p row = true) ∧ v = .non
theorem ok_ask_row (T : Txt K mg) : DefOk P w K mg base CX0 3 "ask_row" ["p", "row"] (spF K F_ask_row) := by
  refine T.d_ask_row.ok sc_ask_row (fun vs H Q E h => ?_) (fun f cdv A outer s H vs Q E hr h => ?_)
  · obtain ⟨ds, v, hd, ⟨p, row, rfl, _⟩, _⟩ := h
    exact dpAll_len hd
  · obtain ⟨ds, v, hd, ⟨p, row, rfl, hp, hn, rfl⟩, q⟩ := h
    obtain ⟨v_p, v_row, rfl, d_p, d_row⟩ := args2 hd
    obtain rfl := dp_int d_p
    have D_ask_prime := ok_ask_prime (P := P) (w := w) (base := base) T
    have D_are_numbers := ok_are_numbers (P := P) (w := w) (base := base) T
    refine ⟨_, (pss_cons (ps_expr (pe_cd D_ask_prime (hr.mono (by omega)) (by rfl) (pa_cons (pv 0) pa_nil)))
      (pss_one (ps_if (pt_not (pt_val (pe_cd D_are_numbers (hr.mono (by omega)) (by rfl) (pa_cons (pv 0) (pa_cons (pv 1) pa_nil)))))
      (pss_one ps_never)
      pss_nil))), ?_⟩
    rw [show start N_ask_row [.int p, v_row] = [some (.int p), some v_row] from rfl]
    have hl : row.length ≤ 40000 := by
      unfold areNums at hn
      rw [Bool.and_eq_true, decide_eq_true_eq] at hn
      omega
    refine q_drop (by walk_at "ev") fun H1 e1 => ?_
    refine s_when (b := !(areNums p row)) (by walk_at "et") (fun hb H2 e2 => ?_) (fun hb H2 e2 => q H2 (by walk_at "ex"))
    rw [hn] at hb
    cases hb
local macro_rules | `(tactic| walk_at "cv") => `(tactic| focus ((with_reducible show F_ask_row _ _); refine ⟨_, _, rfl, ?_, ?_, rfl⟩ <;> walk_at "sd"))
def F_fault (ds : List PyData) (v : V) : Prop := ∃ (p : Int) (row : List Int) (test : List Int) (place : Int), ds = [.int p, dl row, dl test, .int place] ∧ (0 < p) ∧ (p ≤ 97) ∧ (Nums p row) ∧ (Nums p test) ∧ (0 ≤ place) ∧ (place < row.length) ∧ (row.length ≤ 200) ∧ (test.length ≤ 200) ∧ v = .int (flt row test place.toNat % p)
theorem ok_fault (T : Txt K mg) : DefOk P w K mg base CX0 1 "fault" ["p", "row", "test", "place"] (spF K F_fault) := by
  refine T.d_fault.ok sc_fault (fun vs H Q E h => ?_) (fun f cdv A outer s H vs Q E hr h => ?_)
  · obtain ⟨ds, v, hd, ⟨p, row, test, place, rfl, _⟩, _⟩ := h
    exact dpAll_len hd
  · obtain ⟨ds, v, hd, ⟨p, row, test, place, rfl, hp, hq, n1, n2, h0, h1, l1, l2, rfl⟩, q⟩ := h
    obtain ⟨v_p, v_row, v_test, v_place, rfl, d_p, d_row, d_test, d_place⟩ := args4 hd
    obtain rfl := dp_int d_p
    obtain rfl := dp_int d_place
    refine ⟨_, (pss_one (ps_ret (pe_op op_mod (pe_callB (cl_sum (K := K) rfl rfl) (by rfl) T.z_sum (by decide +kernel) (pa_cons (pe_lc (own := [("k", 4)]) (g := gName 4) rfl sc_fault.nd (pi_range1 (by rfl) T.z_range (pa_cons (pe_callB (cl_len (K := K) rfl) (by rfl) T.z_len PySem.boot_len (pa_cons (pv 2) pa_nil)) pa_nil)) (blkOk_by (own := [("k", 4)]) (N := N_fault) (sc := defScope s_fault) (by decide +kernel)) (fun _ _ _ _ _ => pg_name (i := 4) sc_fault.nd rfl (Or.inl rfl)) (fun _ _ _ _ _ => (pts_one (pt_cmpR op_le (pv 4) (pv 3) (nomark _)))) (fun _ _ _ _ _ => (pe_op op_mul (pe_ix (ixL (K := K) rfl) (pv 2) (pv 4) (fun _ _ => rfl)) (pe_ix (ixL (K := K) rfl) (pv 1) (pe_op op_sub (pv 3) (pv 4)) (fun _ _ => rfl))))) pa_nil)) (pv 0)))), ?_⟩
    rw [show start N_fault [.int p, v_row, v_test, .int place] = [some (.int p), some v_row, some v_test, some (.int place), none] from rfl]
    refine s_ret (v := .int (flt row test place.toNat % p)) ?_ (fun H3 e3 => q H3 (by walk_at "ex"))
    obtain ⟨m, rfl⟩ : ∃ m : Nat, place = (m : Int) := ⟨place.toNat, by omega⟩
    have e := flt_filter row test m
    rw [← Int.toNat_natCast test.length] at e
    rw [Int.toNat_natCast, ← e]
    refine ev_op (ev_sumD (evd_l (el_r1t (n := (test.length : Int)) (fun (k : Nat) => decide ((k : Int) ≤ (m : Int))) (fun (k : Nat) => gi test (k : Int) * gi row ((m : Int) - (k : Int))) (by walk_at "ea") (by omega) (fun _ => rfl) (fun k H1 e1 hk => by walk_at "et") (fun k H1 e1 hk hb => ?_)))) (by walk_at "ev") (by walk_at "rv")
    have hb := of_decide_eq_true hb
    have g1 := gi_nums n1 (i := (m : Int) - (k : Int)) (by omega) (by omega)
    have g2 := gi_nums n2 (i := (k : Int)) (by omega) hk
    walk_at "ev"
local macro_rules | `(tactic| walk_at "cv") => `(tactic| focus ((with_reducible show F_fault _ _); refine ⟨_, _, _, _, rfl, ?_, ?_, ?_, ?_, ?_, ?_, ?_, ?_, rfl⟩ <;> walk_at "sd"))
def F_held_at (ds : List PyData) (v : V) : Prop := ∃ (xs : List Int) (place : Int), ds = [dl xs, .int place] ∧ (0 ≤ place) ∧ v = .int (gi xs place)
theorem ok_held_at (T : Txt K mg) : DefOk P w K mg base CX0 1 "held_at" ["some", "place"] (spF K F_held_at) := by
  refine T.d_held_at.ok sc_held_at (fun vs H Q E h => ?_) (fun f cdv A outer s H vs Q E hr h => ?_)
  · obtain ⟨ds, v, hd, ⟨xs, place, rfl, _⟩, _⟩ := h
    exact dpAll_len hd
  · obtain ⟨ds, v, hd, ⟨xs, place, rfl, h0, rfl⟩, q⟩ := h
    obtain ⟨v_xs, v_place, rfl, d_xs, d_place⟩ := args2 hd
    obtain rfl := dp_int d_place
    refine ⟨_, (pss_cons (ps_if (pt_cmpR op_lt (pv 1) (pe_callB (cl_len (K := K) rfl) (by rfl) T.z_len PySem.boot_len (pa_cons (pv 0) pa_nil)) (nomark _))
      (pss_one (ps_ret (pe_ix (ixL (K := K) rfl) (pv 0) (pv 1) (fun _ _ => rfl))))
      pss_nil)
      (pss_one (ps_ret pe_int))), ?_⟩
    rw [show start N_held_at [v_xs, .int place] = [some v_xs, some (.int place)] from rfl]
    refine q_when (b := decide (place < (xs.length : Int))) (by walk_at "et") (fun hb H1 e1 => ?_) (fun hb H1 e1 => ?_)
    · have hb := of_decide_eq_true hb
      exact s_ret (by walk_at "ev") fun H2 e2 => q H2 (by walk_at "ex")
    · have hb := of_decide_eq_false hb
      have e : gi xs place = 0 := by
        rw [show place = ((place.toNat : Nat) : Int) by omega]
        exact gi_out (by omega)
      rw [e] at q
      exact s_ret (by walk_at "ev") fun H2 e2 => q H2 (by walk_at "ex")
local macro_rules | `(tactic| walk_at "cv") => `(tactic| focus ((with_reducible show F_held_at _ _); refine ⟨_, _, rfl, ?_, rfl⟩ <;> walk_at "sd"))
def F_mended (ds : List PyData) (v : List Int) : Prop := ∃ (p : Int) (test : List Int) (older : List Int) (scale : Int) (shift : Int), ds = [.int p, dl test, dl older, .int scale, .int shift] ∧ (0 < p) ∧ (p ≤ 97) ∧ (Nums p older) ∧ (0 ≤ scale) ∧ (scale ≤ 10000) ∧ (0 ≤ shift) ∧ (shift ≤ 200) ∧ (test.length ≤ 200) ∧ (older.length ≤ 200) ∧ v = mendL p test older scale shift.toNat
theorem ok_mended (T : Txt K mg) : DefOk P w K mg base CX0 2 "mended" ["p", "test", "older", "scale", "shift"] (spG K F_mended) := by
  refine T.d_mended.ok sc_mended (fun vs H Q E h => ?_) (fun f cdv A outer s H vs Q E hr h => ?_)
  · obtain ⟨ds, v, hd, ⟨p, test, older, scale, shift, rfl, _⟩, _⟩ := h
    exact dpAll_len hd
  · obtain ⟨ds, v, hd, ⟨p, test, older, scale, shift, rfl, hp, hq, n2, hs0, hs1, h0, h1, l1, l2, rfl⟩, q⟩ := h
    obtain ⟨v_p, v_test, v_older, v_scale, v_shift, rfl, d_p, d_test, d_older, d_scale, d_shift⟩ := args5 hd
    obtain rfl := dp_int d_p
    obtain rfl := dp_int d_scale
    obtain rfl := dp_int d_shift
    have D_held_at := ok_held_at (P := P) (w := w) (base := base) T
    refine ⟨_, (pss_cons (ps_set (i := 5) sc_mended.nd rfl (.inl rfl) (pe_callB (cl_max2 rfl) (by rfl) T.z_max (by decide +kernel) (pa_cons (pe_callB (cl_len (K := K) rfl) (by rfl) T.z_len PySem.boot_len (pa_cons (pv 1) pa_nil)) (pa_cons (pe_op op_add (pe_callB (cl_len (K := K) rfl) (by rfl) T.z_len PySem.boot_len (pa_cons (pv 2) pa_nil)) (pv 4)) pa_nil))))
      (pss_cons (ps_set (i := 6) sc_mended.nd rfl (.inl rfl) (pe_lst pa_nil))
      (pss_cons (ps_for PassesOwn.never rfl (pi_range1 (by rfl) T.z_range (pa_cons (pv 5) pa_nil)) (pg_name (i := 7) sc_mended.nd rfl (.inl rfl))
      (pss_cons (ps_set (i := 8) sc_mended.nd rfl (.inl rfl) pe_int)
      (pss_cut (ps_if (pt_cmpR op_ge (pv 7) (pv 4) (nomark _))
      (pss_one (ps_set (i := 8) sc_mended.nd rfl (.inl rfl) (pe_op op_mul (pv 3) (pe_cd D_held_at (hr.mono (by omega)) (by rfl) (pa_cons (pv 2) (pa_cons (pe_op op_sub (pv 7) (pv 4)) pa_nil))))))
      pss_nil)
      (pss_one (ps_expr (pe_bm PySem.F.plainAttrs_list PySem.F.slot_list_append PySem.F.type_list_append mt_append (pv 6) (pa_cons (pe_op op_mod (pe_op op_sub (pe_cd D_held_at (hr.mono (by omega)) (by rfl) (pa_cons (pv 1) (pa_cons (pv 7) pa_nil))) (pv 8)) (pv 0)) pa_nil)))))))
      (pss_one (ps_ret (pv 6)))))), ?_⟩
    rw [show start N_mended [.int p, v_test, v_older, .int scale, .int shift] = [some (.int p), some v_test, some v_older, some (.int scale), some (.int shift), none, none, none, none] from rfl]
    refine q_asg (by walk_at "ev") fun H1 e1 => ?_
    have hlong : (if ((test.length : Int)) < (older.length : Int) + shift then (older.length : Int) + shift else (test.length : Int)) = ((max test.length (older.length + shift.toNat) : Nat) : Int) := by
      split <;> omega
    try rw [hlong]
    generalize hL : max test.length (older.length + shift.toNat) = long
    refine q_asgL el_nil fun f H2 hf e2 h2 => ?_
    have hff : H f = none := fresh_back e1 hf
    refine q_forR1 (n := (long : Int)) (by walk_at "ea") ⟨by omega, by omega⟩ (fun i σ' H' => ∃ y8 y9, σ' = [some (.int p), some v_test, some v_older, some (.int scale), some (.int shift), some (.int (long : Int)), some (.ref f), y8, y9] ∧ Ex H H' ∧ H' f = some (.lst ((tab i fun k => (gi test (k : Int) - scale * shl older shift.toNat k) % p).map V.int)))
      (fun H3 e3 => ⟨_, _, rfl, by walk_at "ex", by walk_at "at"⟩) (fun i σ' H' hi hP => ?_) (fun σ' H' hP => ?_)
    · obtain ⟨y8, y9, rfl, eH, hF⟩ := hP
      refine q_asg (by walk_at "ev") fun H3 e3 => ?_
      refine q_cut (M := fun σ' H'' => σ' = [some (.int p), some v_test, some v_older, some (.int scale), some (.int shift), some (.int (long : Int)), some (.ref f), some (.int (i : Int)), some (.int (scale * shl older shift.toNat i))] ∧ Ex H' H'') ?_ ?_
      · refine s_when (b := decide (shift ≤ (i : Int))) (by walk_at "et") (fun hb H4 e4 => ?_) (fun hb H4 e4 => ?_)
        · have hb := of_decide_eq_true hb
          have g2 : 0 ≤ gi older ((i : Int) - shift) ∧ gi older ((i : Int) - shift) < p := by
            by_cases z : (i : Int) - shift < older.length
            · exact gi_nums n2 (by omega) z
            · rw [show (i : Int) - shift = (((i : Int) - shift).toNat : Int) by omega, gi_out (by omega)]
              omega
          refine s_asg (by walk_at "ev") fun H5 e5 => ?_
          refine ⟨?_, by walk_at "ex"⟩
          unfold shl
          rw [if_pos (by omega), show ((i : Int) - shift) = ((i - shift.toNat : Nat) : Int) by omega]
          rfl
        · have hb := of_decide_eq_false hb
          refine ⟨?_, by walk_at "ex"⟩
          unfold shl
          rw [if_neg (by omega), Int.mul_zero]
          rfl
      · rintro σ'' H4 ⟨rfl, e4⟩
        refine s_appI (by walk_at "at") (by walk_at "ev") (by walk_at "ev") (by rw [tab_len]; omega) fun H5 e5 => ?_
        refine ⟨_, _, rfl, Ex.mut (by walk_at "ex") hff, ?_⟩
        rw [tab_succ]
        exact upd_same
    · obtain ⟨y8, y9, rfl, eH, hF⟩ := hP
      have e : mendL p test older scale shift.toNat = tab long fun k => (gi test (k : Int) - scale * shl older shift.toNat k) % p := by
        unfold mendL
        rw [hL]
      rw [e] at q
      exact s_ret (by walk_at "ev") fun H3 e3 => q f H3 hff (by walk_at "ex") (by walk_at "at")
local macro_rules | `(tactic| walk_at "cv") => `(tactic| focus ((with_reducible show F_mended _ _); refine ⟨_, _, _, _, _, rfl, ?_, ?_, ?_, ?_, ?_, ?_, ?_, ?_, ?_, rfl⟩ <;> walk_at "sd"))
def F_inverse (ds : List PyData) (v : V) : Prop := ∃ (p : Int) (number : Int), ds = [.int p, .int number] ∧ (2 ≤ p) ∧ (p ≤ 97) ∧ (0 ≤ number) ∧ (number < p) ∧ v = .int (invP p number)
theorem ok_inverse (T : Txt K mg) : DefOk P w K mg base CX0 1 "inverse" ["p", "number"] (spF K F_inverse) := by
  refine T.d_inverse.ok sc_inverse (fun vs H Q E h => ?_) (fun f cdv A outer s H vs Q E hr h => ?_)
  · obtain ⟨ds, v, hd, ⟨p, number, rfl, _⟩, _⟩ := h
    exact dpAll_len hd
  · obtain ⟨ds, v, hd, ⟨p, number, rfl, hp, hq, h0, h1, rfl⟩, q⟩ := h
    obtain ⟨v_p, v_number, rfl, d_p, d_number⟩ := args2 hd
    obtain rfl := dp_int d_p
    obtain rfl := dp_int d_number
    refine ⟨_, (pss_cons (ps_set (i := 2) sc_inverse.nd rfl (.inl rfl) pe_int)
      (pss_cons (ps_for PassesOwn.never rfl (pi_range1 (by rfl) T.z_range (pa_cons (pe_op op_sub (pv 0) pe_int) pa_nil)) (pg_name (i := 3) sc_inverse.nd rfl (.inl rfl))
      (pss_one (ps_set (i := 2) sc_inverse.nd rfl (.inl rfl) (pe_op op_mod (pe_op op_mul (pv 2) (pv 1)) (pv 0)))))
      (pss_one (ps_ret (pv 2))))), ?_⟩
    rw [show start N_inverse [.int p, .int number] = [some (.int p), some (.int number), none, none] from rfl]
    refine q_asg (by walk_at "ev") fun H1 e1 => ?_
    refine q_forR1 (n := p - 2) (by walk_at "ea") ⟨by omega, by omega⟩ (fun i σ' H' => ∃ y, σ' = [some (.int p), some (.int number), some (.int (invN p number i)), y] ∧ Ex H H')
      (fun H2 e2 => ⟨_, rfl, by walk_at "ex"⟩) (fun i σ' H' hi hP => ?_) (fun σ' H' hP => ?_)
    · obtain ⟨y, rfl, eH⟩ := hP
      have hb := invN_bounds (x := number) hp i
      refine s_asg (by walk_at "ev") fun H2 e2 => ?_
      exact ⟨_, rfl, by walk_at "ex"⟩
    · obtain ⟨y, rfl, eH⟩ := hP
      exact s_ret (by walk_at "ev") fun H2 e2 => q H2 (by walk_at "ex")
local macro_rules | `(tactic| walk_at "cv") => `(tactic| focus ((with_reducible show F_inverse _ _); refine ⟨_, _, rfl, ?_, ?_, ?_, ?_, rfl⟩ <;> walk_at "sd"))
theorem ok_found_by (T : Txt K mg) : DefOk P w K mg base CX0 3 "found_by" ["p", "row"] (sp_found_by K) := by
  refine T.d_found_by.ok sc_found_by (fun vs H Q E h => ?_) (fun f cdv A outer s H vs Q E hr h => ?_)
  · obtain ⟨p, row, hd, _⟩ := h
    exact dpAll_len hd
  · obtain ⟨p, row, hd, hp, hn, hl, q⟩ := h
    obtain ⟨v_p, v_row, rfl, d_p, d_row⟩ := args2 hd
    obtain rfl := dp_int d_p
    have hpl := primes_le p hp
    have D_fault := ok_fault (P := P) (w := w) (base := base) T
    have D_mended := ok_mended (P := P) (w := w) (base := base) T
    have D_inverse := ok_inverse (P := P) (w := w) (base := base) T
    refine ⟨_, (pss_cons (ps_set (i := 2) sc_found_by.nd rfl (.inl rfl) (pe_lst (pa_cons pe_int pa_nil)))
      (pss_cons (ps_set (i := 3) sc_found_by.nd rfl (.inl rfl) (pe_lst (pa_cons pe_int pa_nil)))
      (pss_cons (ps_set (i := 4) sc_found_by.nd rfl (.inl rfl) pe_int)
      (pss_cons (ps_set (i := 5) sc_found_by.nd rfl (.inl rfl) pe_int)
      (pss_cons (ps_set (i := 6) sc_found_by.nd rfl (.inl rfl) (pe_lst (pa_cons pe_int pa_nil)))
      (pss_cons (ps_set (i := 7) sc_found_by.nd rfl (.inl rfl) pe_non)
      (pss_cons (ps_for PassesOwn.never rfl (pi_range1 (by rfl) T.z_range (pa_cons (pe_callB (cl_len (K := K) rfl) (by rfl) T.z_len PySem.boot_len (pa_cons (pv 1) pa_nil)) pa_nil)) (pg_name (i := 8) sc_found_by.nd rfl (.inl rfl))
      (pss_cons (ps_set (i := 9) sc_found_by.nd rfl (.inl rfl) (pe_cd D_fault (hr.mono (by omega)) (by rfl) (pa_cons (pv 0) (pa_cons (pv 1) (pa_cons (pv 2) (pa_cons (pv 8) pa_nil))))))
      (pss_cons (ps_set (i := 10) sc_found_by.nd rfl (.inl rfl) (pe_ix (ixL (K := K) rfl) (pv 6) (pe_un un_neg pe_int) (fun _ _ => rfl)))
      (pss_cut (ps_if (pt_cmpR op_eq (pv 9) pe_int (nomark _))
      (pss_one (ps_set (i := 5) sc_found_by.nd rfl (.inl rfl) (pe_op op_add (pv 5) pe_int)))
      (pss_cons (ps_set (i := 11) sc_found_by.nd rfl (.inl rfl) (pe_cd D_mended (hr.mono (by omega)) (by rfl) (pa_cons (pv 0) (pa_cons (pv 2) (pa_cons (pv 3) (pa_cons (pe_op op_mul (pv 9) (pe_cd D_inverse (hr.mono (by omega)) (by rfl) (pa_cons (pv 0) (pa_cons (pv 4) pa_nil)))) (pa_cons (pv 5) pa_nil)))))))
      (pss_cons (ps_set (i := 5) sc_found_by.nd rfl (.inl rfl) (pe_op op_add (pv 5) pe_int))
      (pss_cut (ps_if (pt_cmpR op_le (pe_op op_mul pe_int (pv 10)) (pv 8) (nomark _))
      (pss_cons (ps_set (i := 10) sc_found_by.nd rfl (.inl rfl) (pe_op op_sub (pe_op op_add (pv 8) pe_int) (pv 10)))
      (pss_cons (ps_set (i := 3) sc_found_by.nd rfl (.inl rfl) (pv 2))
      (pss_cons (ps_set (i := 4) sc_found_by.nd rfl (.inl rfl) (pv 9))
      (pss_cons (ps_set (i := 5) sc_found_by.nd rfl (.inl rfl) pe_int)
      (pss_one (ps_set (i := 7) sc_found_by.nd rfl (.inl rfl) (pe_tup (pa_cons (pv 2) (pa_cons (pv 8) (pa_cons (pv 9) pa_nil))))))))))
      pss_nil)
      (pss_one (ps_set (i := 2) sc_found_by.nd rfl (.inl rfl) (pv 11)))))))
      (pss_one (ps_expr (pe_bm PySem.F.plainAttrs_list PySem.F.slot_list_append PySem.F.type_list_append mt_append (pv 6) (pa_cons (pv 10) pa_nil))))))))
      (pss_one (ps_ret (pe_tup (pa_cons (pv 2) (pa_cons (pv 6) (pa_cons (pv 7) pa_nil))))))))))))), ?_⟩
    rw [show start N_found_by [.int p, v_row] = [some (.int p), some v_row, none, none, none, none, none, none, none, none, none, none] from rfl]
    refine q_asgL (xs := ([1] : List Int).map V.int) (by walk_at "el") fun t1 H1 ht1 e1 h1 => ?_
    refine q_asgL (xs := ([1] : List Int).map V.int) (by walk_at "el") fun t2 H2 ht2 e2 h2 => ?_
    refine q_asg (by walk_at "ev") fun H3 e3 => ?_
    refine q_asg (by walk_at "ev") fun H4 e4 => ?_
    refine q_asgL (xs := ([0] : List Int).map V.int) (by walk_at "el") fun f H5 hf e5 h5 => ?_
    refine q_asg (by walk_at "ev") fun H6 e6 => ?_
    have hff : H f = none := fresh_back (H' := H4) (by walk_at "ex") hf
    refine q_forR1 (n := (row.length : Int)) (by walk_at "ea") ⟨by omega, by omega⟩ (fun i σ' H' => ∃ vt vo vj H0 y8 y9 y10 y11, σ' = [some (.int p), some v_row, some vt, some vo, some (.int (bmN p row i).past), some (.int ((bmN p row i).shift : Int)), some (.ref f), some vj, y8, y9, y10, y11] ∧ Ex H H0 ∧ H0 f = none ∧ Ex H0 H' ∧ Dp K H0 vt (dl (bmN p row i).test) ∧ Dp K H0 vo (dl (bmN p row i).older) ∧ Dp K H0 vj (jumpD (bmN p row i).jump) ∧ H' f = some (.lst ((longsL p row i).map V.int)))
      (fun H7 e7 => ?_) (fun i σ' H' hi hP => ?_) (fun σ' H' hP => ?_)
    · refine ⟨.ref t1, .ref t2, .non, H4, none, none, none, none, rfl, by walk_at "ex", hf, by walk_at "ex", dp_lst (by walk_at "at"), dp_lst (by walk_at "at"), .non, ?_⟩
      walk_at "at"
    · obtain ⟨vt, vo, vj, H0, y8, y9, y10, y11, rfl, eA, hA, eB, dt, do_, dj, hF⟩ := hP
      have I := bm_inv hp row i
      have i1 := I.lt
      have i2 := I.lo
      have i3 := I.ln
      have i4 := I.sn
      have i7 := I.nt
      have i8 := I.no
      have hb0 : hereOf p row i (bmN p row i) = flt row (bmN p row i).test i % p := rfl
      have dt' := dpx eB dt
      have do' := dpx eB do_
      -- here, long
      refine q_asg (i := 9) (v := .int (hereOf p row i (bmN p row i))) (by walk_at "ev") fun H7 e7 => ?_
      refine q_asg (i := 10) (v := .int ((bmN p row i).long : Int)) (ev_is (ev_ixl (ns := longsL p row i) (by walk_at "ed") (by walk_at "ev") (by rw [longs_len]; omega)) (by rw [longs_last])) fun H8 e8 => ?_
      -- the step
      refine q_cut (M := fun σ' H'' => ∃ vt vo vj H0 y8 y9 y11, σ' = [some (.int p), some v_row, some vt, some vo, some (.int (bmN p row (i + 1)).past), some (.int ((bmN p row (i + 1)).shift : Int)), some (.ref f), some vj, y8, y9, some (.int ((bmN p row (i + 1)).long : Int)), y11] ∧ Ex H H0 ∧ H0 f = none ∧ Ex H0 H'' ∧ Dp K H0 vt (dl (bmN p row (i + 1)).test) ∧ Dp K H0 vo (dl (bmN p row (i + 1)).older) ∧ Dp K H0 vj (jumpD (bmN p row (i + 1)).jump) ∧ H'' f = some (.lst ((longsL p row i).map V.int))) ?_ ?_
      · refine s_if (b := decide (hereOf p row i (bmN p row i) = 0)) (by walk_at "et") (fun hb H9 e9 => ?_) (fun hb H9 e9 => ?_)
        · have hb := of_decide_eq_true hb
          have es : bmN p row (i + 1) = ⟨(bmN p row i).test, (bmN p row i).older, (bmN p row i).past, (bmN p row i).shift + 1, (bmN p row i).long, (bmN p row i).jump⟩ := if_pos hb
          refine s_asg (by walk_at "ev") fun H10 e10 => ?_
          rw [es]
          exact ⟨vt, vo, vj, H0, _, _, _, rfl, eA, hA, by walk_at "ex", dt, do_, dj, by walk_at "at"⟩
        · have hb := of_decide_eq_false hb
          have i5 := I.p0
          have i6 := I.p1
          have hh0 : 0 ≤ hereOf p row i (bmN p row i) := Int.emod_nonneg _ (by omega)
          have hh1 : hereOf p row i (bmN p row i) < p := Int.emod_lt_of_pos _ (by omega)
          have hv := invP_bounds (bmN p row i).past hpl.1
          have hm0 : 0 ≤ hereOf p row i (bmN p row i) * invP p (bmN p row i).past := Int.mul_nonneg hh0 hv.1
          have hm1 : hereOf p row i (bmN p row i) * invP p (bmN p row i).past ≤ 10000 := by
            have := Int.mul_le_mul (a := hereOf p row i (bmN p row i)) (c := 100) (b := invP p (bmN p row i).past) (d := 100) (by omega) (by omega) hv.1 (by omega)
            omega
          have ef : freshOf p row i (bmN p row i) = mendL p (bmN p row i).test (bmN p row i).older (hereOf p row i (bmN p row i) * invP p (bmN p row i).past) ((bmN p row i).shift : Int).toNat := by
            rw [Int.toNat_natCast]
            rfl
          refine q_asgL (xs := (freshOf p row i (bmN p row i)).map V.int) (by rw [ef]; walk_at "el") fun g H10 hg e10 h10 => ?_
          refine q_asg (by walk_at "ev") fun H11 e11 => ?_
          have hgf : g ≠ f := fun z => by
            subst z
            rw [show H9 g = _ from ex_at (by walk_at "ex") hF] at hg
            cases hg
          refine q_cut (M := fun σ' H'' => ∃ vo vj H0, σ' = [some (.int p), some v_row, some vt, some vo, some (.int (bmN p row (i + 1)).past), some (.int ((bmN p row (i + 1)).shift : Int)), some (.ref f), some vj, some (.int (i : Int)), some (.int (hereOf p row i (bmN p row i))), some (.int ((bmN p row (i + 1)).long : Int)), some (.ref g)] ∧ Ex H H0 ∧ H0 f = none ∧ Ex H0 H'' ∧ H0 g = some (.lst ((bmN p row (i + 1)).test.map V.int)) ∧ Dp K H0 vo (dl (bmN p row (i + 1)).older) ∧ Dp K H0 vj (jumpD (bmN p row (i + 1)).jump) ∧ H'' f = some (.lst ((longsL p row i).map V.int))) ?_ ?_
          · refine s_when (b := decide (2 * ((bmN p row i).long : Int) ≤ (i : Int))) (by walk_at "et") (fun hc H12 e12 => ?_) (fun hc H12 e12 => ?_)
            · have hc := of_decide_eq_true hc
              have es : bmN p row (i + 1) = ⟨freshOf p row i (bmN p row i), (bmN p row i).test, hereOf p row i (bmN p row i), 1, i + 1 - (bmN p row i).long, some ((bmN p row i).test, i, hereOf p row i (bmN p row i))⟩ := by
                show bmS p row i (bmN p row i) = _
                unfold bmS
                rw [if_neg hb, if_pos (by omega)]
              refine q_asg (by walk_at "ev") fun H13 e13 => ?_
              refine q_asg (by walk_at "ev") fun H14 e14 => ?_
              refine q_asg (by walk_at "ev") fun H15 e15 => ?_
              refine q_asg (by walk_at "ev") fun H16 e16 => ?_
              refine s_asgT (by walk_at "ea") (by show 3 ≤ 100000; decide) fun a H17 H18 e17 ha e18 h18 => ?_
              have haf : a ≠ f := fun z => by
                subst z
                rw [show H17 a = _ from ex_at (by walk_at "ex") hF] at ha
                cases ha
              have eD : Ex H0 (del H18 f) := del_ex (by walk_at "ex") hA
              rw [es]
              refine ⟨vt, .ref a, del H18 f, ?_, eA.trans eD, del_self, del_sub, del_at (show H18 g = _ by walk_at "at") hgf, dpx eD dt, ?_, by walk_at "at"⟩
              · rw [show ((i + 1 - (bmN p row i).long : Nat) : Int) = (i : Int) + 1 - ((bmN p row i).long : Int) by omega]
                rfl
              · exact .tup (st_of (del_at h18 haf)) (.cons (dpx eD dt) (.cons (.int _) (.cons (.int _) .nil)))
            · have hc := of_decide_eq_false hc
              have es : bmN p row (i + 1) = ⟨freshOf p row i (bmN p row i), (bmN p row i).older, (bmN p row i).past, (bmN p row i).shift + 1, (bmN p row i).long, (bmN p row i).jump⟩ := by
                show bmS p row i (bmN p row i) = _
                unfold bmS
                rw [if_neg hb, if_neg (by omega)]
              have eD : Ex H0 (del H12 f) := del_ex (by walk_at "ex") hA
              rw [es]
              exact ⟨vo, vj, del H12 f, rfl, eA.trans eD, del_self, del_sub, del_at (show H12 g = _ by walk_at "at") hgf, dpx eD do_, dpx eD dj, by walk_at "at"⟩
          · rintro σ'' H12 ⟨vo, vj, H0, rfl, eA, hA, eB, hG, do_, dj, hF⟩
            refine s_asg (by walk_at "ev") fun H13 e13 => ?_
            exact ⟨.ref g, vo, vj, H0, _, _, _, rfl, eA, hA, by walk_at "ex", dp_lst hG, do_, dj, by walk_at "at"⟩
      · rintro σ'' H9 ⟨vt, vo, vj, H0, y8, y9, y11, rfl, eA, hA, eB, dt, do_, dj, hF⟩
        refine s_appI (by walk_at "at") (by walk_at "ev") (by walk_at "ev") (by rw [longs_len]; omega) fun H10 e10 => ?_
        refine ⟨vt, vo, vj, H0, _, _, _, _, rfl, eA, hA, Ex.mut (eB.trans e10) hA, dt, do_, dj, ?_⟩
        rw [longs_succ]
        exact upd_same
    · obtain ⟨vt, vo, vj, H0, y8, y9, y10, y11, rfl, eA, hA, eB, dt, do_, dj, hF⟩ := hP
      rw [Int.toNat_natCast] at dt do_ dj hF
      refine s_retT (by walk_at "ea") (by show 3 ≤ 100000; decide) fun a H7 ha e7 h7 => ?_
      exact q a f vt vj H7 hff (eA.trans (eB.trans e7)) h7 (dpx (eB.trans e7) dt) (e7 _ _ hF) (dpx (eB.trans e7) dj)
def F_lengths (ds : List PyData) (v : List Int) : Prop := ∃ (p : Int) (row : List Int), ds = [.int p, dl row] ∧ (p ∈ primes) ∧ (isPrime p = true) ∧ (areNums p row = true) ∧ (Nums p row) ∧ (row.length ≤ 30) ∧ v = longsL p row row.length
theorem ok_lengths (T : Txt K mg) : DefOk P w K mg base CX0 4 "lengths" ["p", "row"] (spG K F_lengths) := by
  refine T.d_lengths.ok sc_lengths (fun vs H Q E h => ?_) (fun f cdv A outer s H vs Q E hr h => ?_)
  · obtain ⟨ds, v, hd, ⟨p, row, rfl, _⟩, _⟩ := h
    exact dpAll_len hd
  · obtain ⟨ds, v, hd, ⟨p, row, rfl, hp, hpr, hr1, hn, hl, rfl⟩, q⟩ := h
    obtain ⟨v_p, v_row, rfl, d_p, d_row⟩ := args2 hd
    obtain rfl := dp_int d_p
    have D_ask_row := ok_ask_row (P := P) (w := w) (base := base) T
    have D_found_by := ok_found_by (P := P) (w := w) (base := base) T
    refine ⟨_, (pss_cons (ps_expr (pe_cd D_ask_row (hr.mono (by omega)) (by rfl) (pa_cons (pv 0) (pa_cons (pv 1) pa_nil))))
      (pss_one (ps_ret (pe_ix (ixT (K := K) rfl) (pe_cd D_found_by (hr.mono (by omega)) (by rfl) (pa_cons (pv 0) (pa_cons (pv 1) pa_nil))) pe_int (fun _ _ => rfl))))), ?_⟩
    rw [show start N_lengths [.int p, v_row] = [some (.int p), some v_row] from rfl]
    refine q_drop (by walk_at "ev") fun H1 e1 => ?_
    refine s_retIx (ev_sp (K := K) (sp := sp_found_by K) (ta := tCons (tVar 0) (tCons (tVar 1) tNil)) (H := H1) (ds := [.int p, dl row]) (by walk_at "eda") (fun vs H2 e2 hv => ⟨p, row, hv, hp, hn, by omega, fun a f vt vj H3 hf e3 ha ht hF hj => ?_⟩))
    exact ⟨a, _, 1, .ref f, rfl, rfl, st_of ha, rfl, q f H3 (fresh_back (H' := H2) (by walk_at "ex") hf) (by walk_at "ex") hF⟩
local macro_rules | `(tactic| walk_at "cv") => `(tactic| focus ((with_reducible show F_lengths _ _); refine ⟨_, _, rfl, ?_, ?_, ?_, ?_, ?_, rfl⟩ <;> walk_at "sd"))
def F__law_whole (ds : List PyData) (v : V) : Prop := ∃ (found : Int), ds = [.int found] ∧ v = .bl true
theorem ok__law_whole (T : Txt K mg) : DefOk P w K mg base CX0 1 "_law_whole" ["found"] (spF K F__law_whole) := by
  refine T.d__law_whole.ok sc__law_whole (fun vs H Q E h => ?_) (fun f cdv A outer s H vs Q E hr h => ?_)
  · obtain ⟨ds, v, hd, ⟨found, rfl, _⟩, _⟩ := h
    exact dpAll_len hd
  · obtain ⟨ds, v, hd, ⟨found, rfl, rfl⟩, q⟩ := h
    obtain ⟨v_found, rfl, d_found⟩ := args1 hd
    obtain rfl := dp_int d_found
    refine ⟨_, (pss_one (ps_ret (pe_and (pe_callB (cl_isi (K := K) rfl) (by rfl) T.z_isinstance (by decide +kernel) (pa_cons (pv 0) (pa_cons (pe_bltn (v := .ty "int") (by rfl) T.z_int (by decide +kernel) rfl) pa_nil))) (pe_one (pe_not (pe_callB (cl_isi (K := K) rfl) (by rfl) T.z_isinstance (by decide +kernel) (pa_cons (pv 0) (pa_cons (pe_bltn (v := .ty "bool") (by rfl) T.z_bool (by decide +kernel) rfl) pa_nil)))))))), ?_⟩
    rw [show start N__law_whole [.int found] = [some (.int found)] from rfl]
    exact s_ret (ev_is (by walk_at "ev") (by rfl)) fun H2 e2 => q H2 (by walk_at "ex")
local macro_rules | `(tactic| walk_at "cv") => `(tactic| focus ((with_reducible show F__law_whole _ _); exact ⟨_, rfl, rfl⟩))
def F__law_alike (ds : List PyData) (v : V) : Prop := ∃ (found : List Int) (due : List Int), ds = [dl found, dl due] ∧ (due.length ≤ 1000) ∧ v = .bl (decide (found = due))
theorem ok__law_alike (T : Txt K mg) : DefOk P w K mg base CX0 2 "_law_alike" ["found", "due"] (spF K F__law_alike) := by
  refine T.d__law_alike.ok sc__law_alike (fun vs H Q E h => ?_) (fun f cdv A outer s H vs Q E hr h => ?_)
  · obtain ⟨ds, v, hd, ⟨found, due, rfl, _⟩, _⟩ := h
    exact dpAll_len hd
  · obtain ⟨ds, v, hd, ⟨found, due, rfl, hl, rfl⟩, q⟩ := h
    obtain ⟨v_found, v_due, rfl, d_found, d_due⟩ := args2 hd
    have D__law_whole := ok__law_whole (P := P) (w := w) (base := base) T
    refine ⟨_, (pss_cons (ps_if (PW.pt (pw_or (pt_not (pt_val (pe_callB (cl_isi (K := K) rfl) (by rfl) T.z_isinstance (by decide +kernel) (pa_cons (pv 0) (pa_cons (pe_bltn (v := .ty "list") (by rfl) T.z_list (by decide +kernel) rfl) pa_nil))))) (pw_or1 (pt_cmpR op_ne (pe_callB (cl_len (K := K) rfl) (by rfl) T.z_len PySem.boot_len (pa_cons (pv 0) pa_nil)) (pe_callB (cl_len (K := K) rfl) (by rfl) T.z_len PySem.boot_len (pa_cons (pv 1) pa_nil)) (nomark _)))))
      (pss_one (ps_ret pe_bl))
      pss_nil)
      (pss_cons (ps_for PassesOwn.never rfl (pi_range1 (by rfl) T.z_range (pa_cons (pe_callB (cl_len (K := K) rfl) (by rfl) T.z_len PySem.boot_len (pa_cons (pv 1) pa_nil)) pa_nil)) (pg_name (i := 2) sc__law_alike.nd rfl (.inl rfl))
      (pss_one (ps_if (PW.pt (pw_or (pt_not (pt_val (pe_cd D__law_whole (hr.mono (by omega)) (by rfl) (pa_cons (pe_ix (ixL (K := K) rfl) (pv 0) (pv 2) (fun _ _ => rfl)) pa_nil)))) (pw_or1 (pt_cmpR op_ne (pe_ix (ixL (K := K) rfl) (pv 0) (pv 2) (fun _ _ => rfl)) (pe_ix (ixL (K := K) rfl) (pv 1) (pv 2) (fun _ _ => rfl)) (nomark _)))))
      (pss_one (ps_ret pe_bl))
      pss_nil)))
      (pss_one (ps_ret pe_bl)))), ?_⟩
    rw [show start N__law_alike [v_found, v_due] = [some v_found, some v_due, none] from rfl]
    refine q_when (b := !true || !decide ((found.length : Int) = (due.length : Int))) (by walk_at "et") (fun hb H1 e1 => ?_) (fun hb H1 e1 => ?_)
    · have h : ¬ (found.length : Int) = (due.length : Int) := by simpa using hb
      have e : decide (found = due) = false := decide_eq_false fun z => h (by rw [z])
      rw [e] at q
      exact s_ret (by walk_at "ev") fun H2 e2 => q H2 (by walk_at "ex")
    have h : found.length = due.length := by
      have : (found.length : Int) = (due.length : Int) := by simpa using hb
      omega
    refine q_forR1 (n := (due.length : Int)) (by walk_at "ea") ⟨by omega, by omega⟩ (fun i σ' H' => ∃ y, σ' = [some v_found, some v_due, y] ∧ Ex H H' ∧ ∀ j, j < i → gi found (j : Int) = gi due (j : Int))
      (fun H2 e2 => ⟨_, rfl, by walk_at "ex", fun j hj => absurd hj (Nat.not_lt_zero _)⟩) (fun i σ' H' hi hP => ?_) (fun σ' H' hP => ?_)
    · obtain ⟨y, rfl, eH, hj⟩ := hP
      refine s_when (b := !true || !decide (gi found (i : Int) = gi due (i : Int))) (by walk_at "et") (fun hb H2 e2 => ?_) (fun hb H2 e2 => ?_)
      · have h : ¬ gi found (i : Int) = gi due (i : Int) := by simpa using hb
        have e : decide (found = due) = false := decide_eq_false fun z => h (by rw [z])
        rw [e] at q
        exact s_ret (by walk_at "ev") fun H3 e3 => q H3 (by walk_at "ex")
      · have h : gi found (i : Int) = gi due (i : Int) := by simpa using hb
        refine ⟨_, rfl, by walk_at "ex", fun j hj2 => ?_⟩
        by_cases hji : j = i
        · subst hji
          exact h
        · exact hj j (by omega)
    · obtain ⟨y, rfl, eH, hj⟩ := hP
      have e : decide (found = due) = true := decide_eq_true (gi_ext h fun j hj2 => hj j (by omega))
      rw [e] at q
      exact s_ret (by walk_at "ev") fun H3 e3 => q H3 (by walk_at "ex")
local macro_rules | `(tactic| walk_at "cv") => `(tactic| focus ((with_reducible show F__law_alike _ _); refine ⟨_, _, rfl, ?_, rfl⟩ <;> walk_at "sd"))
def F__law_cell_at (ds : List PyData) (v : V) : Prop := ∃ (script : List Int) (k : Int), ds = [dl script, .int k] ∧ (0 ≤ k) ∧ v = .int (cellAt script k)
theorem ok__law_cell_at (T : Txt K mg) : DefOk P w K mg base CX0 1 "_law_cell_at" ["script", "k"] (spF K F__law_cell_at) := by
  refine T.d__law_cell_at.ok sc__law_cell_at (fun vs H Q E h => ?_) (fun f cdv A outer s H vs Q E hr h => ?_)
  · obtain ⟨ds, v, hd, ⟨script, k, rfl, _⟩, _⟩ := h
    exact dpAll_len hd
  · obtain ⟨ds, v, hd, ⟨script, k, rfl, hk, rfl⟩, q⟩ := h
    obtain ⟨v_script, v_k, rfl, d_script, d_k⟩ := args2 hd
    obtain rfl := dp_int d_k
    refine ⟨_, (pss_cons (ps_if (pt_cmpR op_lt (pv 1) (pe_callB (cl_len (K := K) rfl) (by rfl) T.z_len PySem.boot_len (pa_cons (pv 0) pa_nil)) (nomark _))
      (pss_one (ps_ret (pe_ix (ixL (K := K) rfl) (pv 0) (pv 1) (fun _ _ => rfl))))
      pss_nil)
      (pss_one (ps_ret pe_int))), ?_⟩
    rw [show start N__law_cell_at [v_script, .int k] = [some v_script, some (.int k)] from rfl]
    refine q_when (b := decide (k < (script.length : Int))) (by walk_at "et") (fun hb H1 e1 => ?_) (fun hb H1 e1 => ?_)
    · have h := of_decide_eq_true hb
      have e : cellAt script k = gi script k := if_pos h
      rw [e] at q
      exact s_ret (by walk_at "ev") fun H2 e2 => q H2 (by walk_at "ex")
    · have h := of_decide_eq_false hb
      have e : cellAt script k = 0 := if_neg h
      rw [e] at q
      exact s_ret (by walk_at "ev") fun H2 e2 => q H2 (by walk_at "ex")
local macro_rules | `(tactic| walk_at "cv") => `(tactic| focus ((with_reducible show F__law_cell_at _ _); refine ⟨_, _, rfl, ?_, rfl⟩ <;> walk_at "sd"))
theorem ok__law_all (T : Txt K mg) : DefOk P w K mg base CX0 1 "_law_all" ["p", "long"] (spN K N__law_all_) := by
  refine T.d__law_all.ok sc__law_all (fun vs H Q E h => ?_) (fun f cdv A outer s H vs Q E hr h => ?_)
  · obtain ⟨ds, d, hd, ⟨p, long, rfl, _⟩, _⟩ := h
    exact dpAll_len hd
  · obtain ⟨ds, d, hd, ⟨p, long, rfl, hp, hq, h0, h1, hb, rfl⟩, q⟩ := h
    obtain ⟨v_p, v_long, rfl, d_p, d_long⟩ := args2 hd
    obtain rfl := dp_int d_p
    obtain rfl := dp_int d_long

    refine ⟨_, (pss_cons (ps_set (i := 2) sc__law_all.nd rfl (.inl rfl) (pe_lst (pa_cons (pe_lst pa_nil) pa_nil)))
      (pss_cons (ps_for PassesOwn.never rfl (pi_range1 (by rfl) T.z_range (pa_cons (pv 1) pa_nil)) (pg_name (i := 3) sc__law_all.nd rfl (.inl rfl))
      (pss_cons (ps_set (i := 4) sc__law_all.nd rfl (.inl rfl) (pe_lst pa_nil))
      (pss_cons (ps_for PassesOwn.never rfl (pi_list (pv 2)) (pg_name (i := 5) sc__law_all.nd rfl (.inr rfl))
      (pss_one (ps_set (i := 4) sc__law_all.nd rfl (.inl rfl) (pe_op op_cat (pv 4) (pe_lc (own := [("number", 6)]) (g := gName 6) (tt := tYes) rfl sc__law_all.nd (pi_range1 (by rfl) T.z_range (pa_cons (pv 0) pa_nil)) (blkOk_by (own := [("number", 6)]) (N := N__law_all) (sc := defScope s__law_all) (by decide +kernel)) (fun _ _ _ _ _ => pg_name (i := 6) sc__law_all.nd rfl (Or.inl rfl)) (fun _ _ _ _ _ => pts_nil) (fun _ _ _ _ _ => (pe_op op_cat (pv 5) (pe_lst (pa_cons (pv 6) pa_nil)))))))))
      (pss_one (ps_set (i := 2) sc__law_all.nd rfl (.inl rfl) (pv 4))))))
      (pss_one (ps_ret (pv 2))))), ?_⟩
    rw [show start N__law_all [.int p, .int long] = [some (.int p), some (.int long), none, none, none, none, none] from rfl]
    refine q_asgNL (nss := [[]]) (enl_one el_nil) fun v0 H1 e1 n1 => ?_
    refine q_forR1 (n := long) (by walk_at "ea") ⟨by omega, by omega⟩ (fun i σ' H' => ∃ v y3 y4 y5, σ' = [some (.int p), some (.int long), some v, y3, y4, y5, none] ∧ Ex H H' ∧ NL H H' v (allR p i))
      (fun H2 e2 => ⟨v0, _, _, _, rfl, by walk_at "ex", n1.ex e2⟩) (fun i σ' H' hi hP => ?_) (fun σ' H' hP => ?_)
    · obtain ⟨v, y3, y4, y5, rfl, eH, hv⟩ := hP
      refine q_asgNL enl_nil fun w0 H2 e2 n2 => ?_
      have eH2 := eH.trans e2
      have hpi : pw p (i + 1) ≤ 1000 := Int.le_trans (pw_mono (by omega) (by omega)) hb
      have hal := allR_len (p := p) (by omega) i
      refine q_forNL2 (B := H) (nss := allR p i) (by walk_at "ev") (hv.ex e2) (fun i2 σ'' H'' => ∃ w y5, σ'' = [some (.int p), some (.int long), some v, some (.int (i : Int)), some w, y5, none] ∧ Ex H2 H'' ∧ NL H H'' w (((allR p i).take i2).flatMap (extR p)))
        (fun H3 e3 => ⟨w0, _, rfl, e3, (n2.base eH).ex e3⟩) (fun i2 σ'' H'' hP => ?_) (fun i2 b ns σ'' H'' hns hP hbn => ?_) (fun σ'' H'' hP => ?_)
      · obtain ⟨w, y5, rfl, e3, _⟩ := hP
        exact e3
      · obtain ⟨w, y5, rfl, e3, hw⟩ := hP
        have hmem := List.mem_of_getElem? hns
        have hnl := (allR_nums i ns hmem).1
        have hlen := flat_length (p := p) (by omega) ((allR p i).take i2)
        have hmul : ((((allR p i).take i2).length : Nat) : Int) * p ≤ pw p i * p := Int.mul_le_mul_of_nonneg_right (by rw [← hal, List.length_take]; omega) (by omega)
        have hpw : pw p (i + 1) = pw p i * p := rfl
        have e4 : ((allR p i).take (i2 + 1)).flatMap (extR p) = ((allR p i).take i2).flatMap (extR p) ++ extR p ns := by
          rw [List.take_succ, hns, List.flatMap_append]
          simp
        have e5 : (extR p ns).length = p.toNat := by
          unfold extR
          rw [List.length_map, List.length_range]
        have hcomp : EvNL (tLc (iRng1 (tCons (tVar 0) tNil)) (gName 6) tYes (tOp rCat (tVar 5) (tLst (tCons (tVar 6) tNil))) (([("number", 6)] : List (PySem.Str × Nat)).map (·.2))) [some (.int p), some (.int long), some v, some (.int (i : Int)), some w, some (.ref b), none] H'' (extR p ns) := enl_r1 (fun j => ns ++ [((j : Nat) : Int)]) (by walk_at "ea") (by omega) (fun _ => rfl) (fun k H4 e4 hk => el_cat (evx_v (by walk_at "ev") (e4 _ _ hbn)) (evx_l (by walk_at "el")) (by rw [List.length_singleton]; omega))
        rw [e4]
        exact nl_cat (B := H) (eH2.trans e3) (by walk_at "ev") hw hcomp (by omega) fun w2 H4 e4 n4 => ⟨w2, _, rfl, e3.trans e4, n4⟩
      · obtain ⟨w, y5, rfl, e3, hw⟩ := hP
        rw [List.take_length] at hw
        refine s_asg (by walk_at "ev") fun H4 e4 => ?_
        exact ⟨w, _, _, _, rfl, (eH2.trans e3).trans e4, hw.ex e4⟩
    · obtain ⟨v, y3, y4, y5, rfl, eH, hv⟩ := hP
      exact s_ret (by walk_at "ev") fun H2 e2 => q v H2 (by walk_at "ex") (hv.ex e2).dp
def F__law_tells (ds : List PyData) (v : V) : Prop := ∃ (p : Int) (row : List Int) (rule : List Int), ds = [.int p, dl row, dl rule] ∧ (0 < p) ∧ (p ≤ 97) ∧ (Nums p rule) ∧ (rule.length ≤ row.length) ∧ (row.length ≤ 1000) ∧ v = .int (nextOf p row rule)
theorem ok__law_tells (T : Txt K mg) : DefOk P w K mg base CX0 1 "_law_tells" ["p", "row", "rule"] (spF K F__law_tells) := by
  refine T.d__law_tells.ok sc__law_tells (fun vs H Q E h => ?_) (fun f cdv A outer s H vs Q E hr h => ?_)
  · obtain ⟨ds, v, hd, ⟨p, row, rule, rfl, _⟩, _⟩ := h
    exact dpAll_len hd
  · obtain ⟨ds, v, hd, ⟨p, row, rule, rfl, hp, hq, hn, hl, hm, rfl⟩, q⟩ := h
    obtain ⟨v_p, v_row, v_rule, rfl, d_p, d_row, d_rule⟩ := args3 hd
    obtain rfl := dp_int d_p
    refine ⟨_, (pss_cons (ps_set (i := 3) sc__law_tells.nd rfl (.inl rfl) pe_int)
      (pss_cons (ps_for PassesOwn.never rfl (pi_range1 (by rfl) T.z_range (pa_cons (pe_callB (cl_len (K := K) rfl) (by rfl) T.z_len PySem.boot_len (pa_cons (pv 2) pa_nil)) pa_nil)) (pg_name (i := 4) sc__law_tells.nd rfl (.inl rfl))
      (pss_one (ps_set (i := 3) sc__law_tells.nd rfl (.inl rfl) (pe_op op_add (pv 3) (pe_op op_mul (pe_ix (ixL (K := K) rfl) (pv 2) (pv 4) (fun _ _ => rfl)) (pe_ix (ixL (K := K) rfl) (pv 1) (pe_op op_sub (pe_op op_sub (pe_callB (cl_len (K := K) rfl) (by rfl) T.z_len PySem.boot_len (pa_cons (pv 1) pa_nil)) pe_int) (pv 4)) (fun _ _ => rfl)))))))
      (pss_one (ps_ret (pe_op op_mod (pv 3) (pv 0)))))), ?_⟩
    rw [show start N__law_tells [.int p, v_row, v_rule] = [some (.int p), some v_row, some v_rule, none, none] from rfl]
    refine q_asg (by walk_at "ev") fun H1 e1 => ?_
    refine q_forR1 (n := (rule.length : Int)) (by walk_at "ea") ⟨by omega, by omega⟩ (fun i σ' H' => ∃ y, σ' = [some (.int p), some v_row, some v_rule, some (.int (dotN row rule i)), y] ∧ Ex H H')
      (fun H2 e2 => ⟨_, rfl, by walk_at "ex"⟩) (fun i σ' H' hi hP => ?_) (fun σ' H' hP => ?_)
    · obtain ⟨y, rfl, eH⟩ := hP
      have hg := gi_nums hn (i := (i : Int)) (by omega) hi
      refine s_asg (by walk_at "ev") fun H2 e2 => ?_
      exact ⟨_, rfl, by walk_at "ex"⟩
    · obtain ⟨y, rfl, eH⟩ := hP
      rw [Int.toNat_natCast]
      exact s_ret (ev_is (by walk_at "ev") (by rfl)) fun H2 e2 => q H2 (by walk_at "ex")
local macro_rules | `(tactic| walk_at "cv") => `(tactic| focus ((with_reducible show F__law_tells _ _); refine ⟨_, _, _, rfl, ?_, ?_, ?_, ?_, ?_, rfl⟩ <;> walk_at "sd"))
def F__law_goes (ds : List PyData) (v : V) : Prop := ∃ (p : Int) (row : List Int) (rule : List Int), ds = [.int p, dl row, dl rule] ∧ (0 < p) ∧ (p ≤ 97) ∧ (Nums p rule) ∧ (rule.length ≤ 1000) ∧ (row.length ≤ 1000) ∧ v = .bl (goesB p row rule)
theorem ok__law_goes (T : Txt K mg) : DefOk P w K mg base CX0 2 "_law_goes" ["p", "row", "rule"] (spF K F__law_goes) := by
  refine T.d__law_goes.ok sc__law_goes (fun vs H Q E h => ?_) (fun f cdv A outer s H vs Q E hr h => ?_)
  · obtain ⟨ds, v, hd, ⟨p, row, rule, rfl, _⟩, _⟩ := h
    exact dpAll_len hd
  · obtain ⟨ds, v, hd, ⟨p, row, rule, rfl, hp, hq, hn, hl, hm, rfl⟩, q⟩ := h
    obtain ⟨v_p, v_row, v_rule, rfl, d_p, d_row, d_rule⟩ := args3 hd
    obtain rfl := dp_int d_p
    have D__law_tells := ok__law_tells (P := P) (w := w) (base := base) T
    refine ⟨_, (pss_cons (ps_for PassesOwn.never rfl (pi_range2 (by rfl) T.z_range (pa_cons (pe_callB (cl_len (K := K) rfl) (by rfl) T.z_len PySem.boot_len (pa_cons (pv 2) pa_nil)) (pa_cons (pe_callB (cl_len (K := K) rfl) (by rfl) T.z_len PySem.boot_len (pa_cons (pv 1) pa_nil)) pa_nil))) (pg_name (i := 3) sc__law_goes.nd rfl (.inl rfl))
      (pss_one (ps_if (pt_cmpR op_ne (pe_ix (ixL (K := K) rfl) (pv 1) (pv 3) (fun _ _ => rfl)) (pe_cd D__law_tells (hr.mono (by omega)) (by rfl) (pa_cons (pv 0) (pa_cons (pe_slice (slL (K := K) rfl) (pv 1) po_none (po_some (pv 3))) (pa_cons (pv 2) pa_nil)))) (nomark _))
      (pss_one (ps_ret pe_bl))
      pss_nil)))
      (pss_one (ps_ret pe_bl))), ?_⟩
    rw [show start N__law_goes [.int p, v_row, v_rule] = [some (.int p), some v_row, some v_rule, none] from rfl]
    refine q_forR2 (lo := (rule.length : Int)) (n := (row.length : Int)) (by walk_at "ea") ⟨by omega, by omega, by omega, by omega⟩ (fun i σ' H' => ∃ y, σ' = [some (.int p), some v_row, some v_rule, y] ∧ Ex H H' ∧ ∀ j, j < i → gi row ((rule.length : Int) + (j : Int)) = nextOf p (row.take (rule.length + j)) rule)
      (fun H2 e2 => ⟨_, rfl, by walk_at "ex", fun j hj => absurd hj (Nat.not_lt_zero _)⟩) (fun i σ' H' hi hP => ?_) (fun σ' H' hP => ?_)
    · obtain ⟨y, rfl, eH, hj⟩ := hP
      have et : ((rule.length : Int) + (i : Int)).toNat = rule.length + i := by omega
      refine s_when (b := !decide (gi row ((rule.length : Int) + (i : Int)) = nextOf p (row.take ((rule.length : Int) + (i : Int)).toNat) rule)) (by walk_at "et") (fun hb H2 e2 => ?_) (fun hb H2 e2 => ?_)
      · rw [et] at hb
        have h : goesB p row rule = false := goesB_not (i := i) (by omega) (of_decide_eq_false (by simpa using hb))
        rw [h] at q
        exact s_ret (by walk_at "ev") fun H3 e3 => q H3 (by walk_at "ex")
      · rw [et] at hb
        have h : gi row ((rule.length : Int) + (i : Int)) = nextOf p (row.take (rule.length + i)) rule := by simpa using hb
        refine ⟨_, rfl, by walk_at "ex", fun j hj2 => ?_⟩
        by_cases hji : j = i
        · subst hji
          exact h
        · exact hj j (by omega)
    · obtain ⟨y, rfl, eH, hj⟩ := hP
      have h : goesB p row rule = true := goesB_yes fun i hi => hj i (by omega)
      rw [h] at q
      exact s_ret (by walk_at "ev") fun H3 e3 => q H3 (by walk_at "ex")
local macro_rules | `(tactic| walk_at "cv") => `(tactic| focus ((with_reducible show F__law_goes _ _); refine ⟨_, _, _, rfl, ?_, ?_, ?_, ?_, ?_, rfl⟩ <;> walk_at "sd"))
theorem ok__law_least (T : Txt K mg) : DefOk P w K mg base CX0 3 "_law_least" ["p", "row", "rules"] (spF K F__law_least) := by
  refine T.d__law_least.ok sc__law_least (fun vs H Q E h => ?_) (fun f cdv A outer s H vs Q E hr h => ?_)
  · obtain ⟨ds, v, hd, ⟨p, row, N, L, rfl, _⟩, _⟩ := h
    exact dpAll_len hd
  · obtain ⟨ds, v, hd, ⟨p, row, N, L, rfl, hp, hq, hn, hl, hN, hL, rfl⟩, q⟩ := h
    obtain ⟨v_p, v_row, v_rules, rfl, d_p, d_row, d_rules⟩ := args3 hd
    obtain rfl := dp_int d_p
    have D__law_goes := ok__law_goes (P := P) (w := w) (base := base) T
    refine ⟨_, (pss_cons (ps_for PassesOwn.never rfl (pi_range1 (by rfl) T.z_range (pa_cons (pe_op op_add (pe_callB (cl_len (K := K) rfl) (by rfl) T.z_len PySem.boot_len (pa_cons (pv 1) pa_nil)) pe_int) pa_nil)) (pg_name (i := 3) sc__law_least.nd rfl (.inl rfl))
      (pss_one (ps_for PassesOwn.never rfl (pi_list (pe_ix (ixL (K := K) rfl) (pv 2) (pv 3) (fun _ _ => rfl))) (pg_name (i := 4) sc__law_least.nd rfl (.inl rfl))
      (pss_one (ps_if (pt_val (pe_cd D__law_goes (hr.mono (by omega)) (by rfl) (pa_cons (pv 0) (pa_cons (pv 1) (pa_cons (pv 4) pa_nil)))))
      (pss_one (ps_ret (pv 3)))
      pss_nil)))))
      (pss_one (ps_ret (pe_un un_neg pe_int)))), ?_⟩
    rw [show start N__law_least [.int p, v_row, v_rules] = [some (.int p), some v_row, some v_rules, none, none] from rfl]
    obtain ⟨L1, L2, r0, L3, L4⟩ := hL
    refine q_forR1 (n := (row.length : Int) + 1) (by walk_at "ea") ⟨by omega, by omega⟩ (fun i σ' H' => i ≤ L ∧ ∃ y3 y4, σ' = [some (.int p), some v_row, some v_rules, y3, y4] ∧ Ex H H')
      (fun H2 e2 => ⟨Nat.zero_le _, _, _, rfl, e2⟩) (fun i σ' H' hi hP => ?_) (fun σ' H' hP => ?_)
    · obtain ⟨hiL, y3, y4, rfl, eH⟩ := hP
      have hg : ((List.range (N + 1)).map (allD p))[((i : Nat) : Int).toNat]? = some (allD p i) := by
        rw [Int.toNat_natCast, List.getElem?_map, List.getElem?_eq_getElem (by rw [List.length_range]; omega), List.getElem_range] <;> rfl
      have d_rules := dpx eH d_rules
      refine s_forDD (ds := (allR p i).map dl) (ed_ix (ds := (List.range (N + 1)).map (allD p)) (by walk_at "ed") (by walk_at "ev") (by omega) hg) (fun H1 i2 σ'' H'' => (∃ y4, σ'' = [some (.int p), some v_row, some v_rules, some (.int (i : Int)), y4] ∧ Ex H1 H'') ∧ ∀ j, j < i2 → ∀ r, (allR p i)[j]? = some r → goesB p row r = false)
        (fun H2 e2 => ⟨⟨_, rfl, Ex.refl H2⟩, fun j hj => absurd hj (Nat.not_lt_zero j)⟩) (fun H1 i2 σ'' H'' hP => ?_) (fun H1 i2 v d σ'' H'' e1 hd2 hP hv => ?_) (fun H1 σ'' H'' e1 hP => ?_)
      · obtain ⟨⟨y4, rfl, e⟩, _⟩ := hP
        exact e
      · obtain ⟨⟨y4, rfl, e⟩, hall⟩ := hP
        rw [List.getElem?_map] at hd2
        obtain ⟨r, hr2, rfl⟩ : ∃ r, (allR p i)[i2]? = some r ∧ d = dl r := by
          cases h : (allR p i)[i2]? with
          | none =>
            rw [h] at hd2
            cases hd2
          | some r =>
            rw [h] at hd2
            exact ⟨r, rfl, (Option.some.inj hd2).symm⟩
        have hm := List.mem_of_getElem? hr2
        obtain ⟨n1, n2⟩ := allR_nums i r hm
        have d_row := dpx (eH.trans (e1.trans e)) d_row
        refine s_when (b := goesB p row r) (by walk_at "et") (fun hb H3 e3 => ?_) (fun hb H3 e3 => ?_)
        · have hiL2 : i = L := by
            by_cases z : i < L
            · have := L2 i z r hm
              rw [this] at hb
              cases hb
            · omega
          subst hiL2
          exact s_ret (by walk_at "ev") fun H4 e4 => q H4 ((eH.trans (e1.trans e)).trans (e3.trans e4))
        · refine ⟨⟨_, rfl, e.trans e3⟩, fun j hj r2 hr3 => ?_⟩
          by_cases z : j = i2
          · subst z
            rw [hr2] at hr3
            cases hr3
            exact hb
          · exact hall j (by omega) r2 hr3
      · obtain ⟨⟨y4, rfl, e⟩, hall⟩ := hP
        refine ⟨?_, _, _, rfl, eH.trans (e1.trans e)⟩
        refine Nat.lt_of_le_of_ne hiL fun z => ?_
        subst z
        obtain ⟨j, hj, hj2⟩ := List.mem_iff_getElem.mp L3
        have := hall j (by rw [List.length_map]; exact hj) r0 (by rw [List.getElem?_eq_getElem hj, hj2])
        rw [this] at L4
        cases L4
    · obtain ⟨hiL, _⟩ := hP
      exfalso
      omega
theorem ok_law {f : Addr} {fd : FuncData} (F : Fun K "law" "law" s_law f fd) (T : Txt K mg) : FnOk P w K mg base CX0 5 f fd ["script"] (sp_law K) := by
  refine F.ok sc_law (fun vs H Q E h => ?_) (fun cdv A outer s H vs Q E hr h => ?_)
  · obtain ⟨a, ns, rfl, _⟩ := h
    rfl
  · obtain ⟨a, script, rfl, hS, hlen, q⟩ := h
    have d_script : Dp K H (.ref a) (dl script) := dp_dl hS
    have D__law_numbers := ok__law_numbers (P := P) (w := w) (base := base) T
    have D_lengths := ok_lengths (P := P) (w := w) (base := base) T
    have D__law_alike := ok__law_alike (P := P) (w := w) (base := base) T
    have D__law_cell_at := ok__law_cell_at (P := P) (w := w) (base := base) T
    have D__law_all := ok__law_all (P := P) (w := w) (base := base) T
    have D__law_least := ok__law_least (P := P) (w := w) (base := base) T
    refine ⟨_, (pss_cons (ps_set (i := 1) sc_law.nd rfl (.inl rfl) (pe_op op_mod (pe_cd D__law_cell_at (hr.mono (by omega)) (by rfl) (pa_cons (pv 0) (pa_cons pe_int pa_nil))) pe_int))
      (pss_cons (ps_set (i := 2) sc_law.nd rfl (.inr rfl) (pe_ix (ixL (K := K) rfl) (pe_lst (pa_cons pe_int (pa_cons pe_int (pa_cons pe_int pa_nil)))) (pv 1) (fun _ _ => rfl)))
      (pss_cons (ps_set (i := 3) sc_law.nd rfl (.inr rfl) (pe_cd D__law_numbers (hr.mono (by omega)) (by rfl) (pa_cons (pv 2) (pa_cons (pe_op op_mod (pe_cd D__law_cell_at (hr.mono (by omega)) (by rfl) (pa_cons (pv 0) (pa_cons pe_int pa_nil))) (pe_ix (ixL (K := K) rfl) (pe_lst (pa_cons pe_int (pa_cons pe_int (pa_cons pe_int pa_nil)))) (pv 1) (fun _ _ => rfl))) (pa_cons (pe_cd D__law_cell_at (hr.mono (by omega)) (by rfl) (pa_cons (pv 0) (pa_cons pe_int pa_nil))) pa_nil)))))
      (pss_cons (ps_set (i := 4) sc_law.nd rfl (.inr rfl) (pe_lc (own := [("long", 8)]) (g := gName 8) (tt := tYes) rfl sc_law.nd (pi_range1 (by rfl) T.z_range (pa_cons (pe_op op_add (pe_callB (cl_len (K := K) rfl) (by rfl) T.z_len PySem.boot_len (pa_cons (pv 3) pa_nil)) pe_int) pa_nil)) (blkOk_by (own := [("long", 8)]) (N := N_law) (sc := defScope s_law) (by decide +kernel)) (fun _ _ _ _ _ => pg_name (i := 8) sc_law.nd rfl (Or.inl rfl)) (fun _ _ _ _ _ => pts_nil) (fun _ _ _ _ _ => (pe_cd D__law_all (hr.mono (by omega)) (by rfl) (pa_cons (pv 2) (pa_cons (pv 8) pa_nil))))))
      (pss_cons (ps_setLc (i := 5) (own := [("n", 9)]) (g := gName 9) (tt := tYes) rfl sc_law.nd rfl rfl (sw_true rfl rfl rfl (by decide +kernel)) (pi_range1 (by rfl) T.z_range (pa_cons (pe_op op_add (pe_callB (cl_len (K := K) rfl) (by rfl) T.z_len PySem.boot_len (pa_cons (pv 3) pa_nil)) pe_int) pa_nil)) (blkOk_by (own := [("n", 9)]) (N := N_law) (sc := defScope s_law) (by decide +kernel)) (fun _ _ _ _ _ => pg_name (i := 9) sc_law.nd rfl (Or.inl rfl)) (fun _ _ _ _ _ => pts_nil) (fun _ _ _ _ _ => (pe_cd D__law_least (hr.mono (by omega)) (by rfl) (pa_cons (pv 2) (pa_cons (pe_slice (slL (K := K) rfl) (pv 3) po_none (po_some (pv 9))) (pa_cons (pv 4) pa_nil))))))
      (pss_cons (ps_set (i := 6) sc_law.nd rfl (.inl rfl) (pe_callTy (cl_list (K := K) rfl) (by rfl) T.z_list (by decide +kernel) (pa_cons (pv 3) pa_nil)))
      (pss_cons (ps_set (i := 7) sc_law.nd rfl (.inl rfl) (pe_cd D_lengths (hr.mono (by omega)) (by rfl) (pa_cons (pv 2) (pa_cons (pv 6) pa_nil))))
      (pss_cons (ps_if (PW.pt (pw_or (pt_not (pt_val (pe_cd D__law_alike (hr.mono (by omega)) (by rfl) (pa_cons (pv 7) (pa_cons (pv 5) pa_nil))))) (pw_or1 (pt_cmpR (opNeD (K := K) rfl hr.units) (pv 6) (pv 3) (nomark _)))))
      (pss_one (ps_ret pe_bl))
      pss_nil)
      (pss_cons (ps_expr (pe_bm PySem.F.plainAttrs_list PySem.F.slot_list_append PySem.F.type_list_append mt_append (pv 7) (pa_cons pe_int pa_nil)))
      (pss_one (ps_ret (pe_cd D__law_alike (hr.mono (by omega)) (by rfl) (pa_cons (pe_cd D_lengths (hr.mono (by omega)) (by rfl) (pa_cons (pv 2) (pa_cons (pv 6) pa_nil))) (pa_cons (pv 5) pa_nil)))))))))))))), ?_⟩
    rw [show start N_law [.ref a] = [some (.ref a), none, none, none, none, none, none, none, none, none] from rfl]
    refine q_asg (by walk_at "ev") fun H1 e1 => ?_
    have hw : 0 ≤ cellAt script 0 % 3 ∧ cellAt script 0 % 3 < 3 := by omega
    generalize cellAt script 0 % 3 = way at hw ⊢
    have key : gi [2, 3, 5] way ∈ primes ∧ 0 < gi [8, 5, 4] way ∧ gi [8, 5, 4] way ≤ 8 ∧ pw (gi [2, 3, 5] way) (gi [8, 5, 4] way - 1).toNat ≤ 1000 := by
      have h3 : way = 0 ∨ way = 1 ∨ way = 2 := by omega
      rcases h3 with rfl | rfl | rfl <;> decide
    have w1 : way < (([2, 3, 5] : List Int).length : Int) := by
      show way < 3
      omega
    have w2 : way < (([8, 5, 4] : List Int).length : Int) := by
      show way < 3
      omega
    refine q_asg (i := 2) (v := .int (gi [2, 3, 5] way)) (ev_ix (evd_l (el_ints (ns := [2, 3, 5]) (ea_is (by walk_at "ea") (by rfl)) (by decide))) (by walk_at "ev") hw.1 w1) fun H2 e2 => ?_
    obtain ⟨hpm, m0, m1, hpb⟩ := key
    have hmx : ∀ {H' σ}, Ex H2 H' → σ[1]? = some (some (V.int way)) → Ev (tOp (rIxL K) (tLst (tCons (tC (.int 8)) (tCons (tC (.int 5)) (tCons (tC (.int 4)) tNil)))) (tVar 1)) σ H' (.int (gi [8, 5, 4] way)) := fun {H' σ} e hσ => ev_ix (evd_l (el_ints (ns := [8, 5, 4]) (ea_is (by walk_at "ea") (by rfl)) (by decide))) (ev_var hσ) hw.1 w2
    generalize gi [2, 3, 5] way = p at hpm hpb ⊢
    generalize gi [8, 5, 4] way = many at m0 m1 hpb hmx
    have hpl := primes_le p hpm
    have hpr := primes_prime p hpm
    have hp0 : 0 < p := by omega
    have hA0 := Int.emod_nonneg (cellAt script 1) (show many ≠ 0 by omega)
    have hA1 := Int.emod_lt_of_pos (cellAt script 1) m0
    have L1 := lawNums_len p (cellAt script 1 % many) (cellAt script 2)
    have N1 := lawNums_nums (p := p) hp0 (cellAt script 1 % many) (cellAt script 2)
    have am : cellAt script 1 % many ≤ 1000 := by omega
    refine q_asgL (xs := (lawNums p (cellAt script 1 % many) (cellAt script 2)).map V.int) (el_cd (ds := [.int p, .int (cellAt script 1 % many), .int (cellAt script 2)]) (evd_cons (by walk_at "ed") (evd_cons (evd_i (ev_op (by walk_at "ev") (hmx (Ex.refl H2) rfl) (by walk_at "rv"))) (by walk_at "eda"))) ⟨p, _, _, rfl, hp0, hA0, am, rfl⟩) fun b H3 hb e3 h3 => ?_
    have l1 : ((lawNums p (cellAt script 1 % many) (cellAt script 2)).length : Int) ≤ many - 1 := by omega
    clear hmx
    generalize lawNums p (cellAt script 1 % many) (cellAt script 2) = row at L1 N1 h3 l1
    have hpw : ∀ k, k ≤ row.length → pw p k ≤ 1000 := fun k hk => Int.le_trans (pw_mono (by omega) (by omega)) hpb
    have l2 : row.length ≤ 7 := by omega
    have har := areNums_of (show row.length ≤ 30 by omega) N1
    -- all rules
    have eR : (List.range ((row.length : Int) + 1).toNat).map (allD p) = (List.range (row.length + 1)).map (allD p) := by
      rw [show ((row.length : Int) + 1).toNat = row.length + 1 by omega]
    refine q_asgD (K := K) (d := .list ((List.range (row.length + 1)).map (allD p))) (by
      rw [← eR]
      refine evN_D (evN_r1 (allD p) (by walk_at "ea") (by omega) (fun _ => rfl) (fun i H4 e4 hi => ?_))
      have := hpw i (by omega)
      exact evN_cd (ds := [.int p, .int (i : Int)]) (by walk_at "eda") ⟨p, (i : Int), rfl, hpl.1, hpl.2, by omega, by omega, by rw [Int.toNat_natCast]; exact this, by rw [Int.toNat_natCast]⟩) fun v4 H4 e4 d4 => ?_
    -- due
    have eL : longsL p row row.length = (List.range ((row.length : Int) + 1).toNat).map fun (n : Nat) => ((bmN p row n).long : Int) := by
      rw [show ((row.length : Int) + 1).toNat = row.length + 1 by omega]
      rfl
    refine q_asgL (xs := (longsL p row row.length).map V.int) (by
      rw [eL]
      refine el_r1 _ (by walk_at "ea") (by omega) (fun _ => rfl) (fun n H5 e5 hn => ?_)
      have hn2 : n ≤ row.length := by omega
      have hn3 : ((n : Nat) : Int) ≤ row.length := by omega
      have lt := least_take hpm N1 hn2
      refine ev_cd (ds := [.int p, dl (row.take ((n : Nat) : Int).toNat), .list ((List.range (row.length + 1)).map (allD p))]) (by walk_at "eda") ⟨p, row.take ((n : Nat) : Int).toNat, row.length, (bmN p row n).long, rfl, hp0, hpl.2, N1.take _, by rw [List.length_take]; omega, by omega, by rw [Int.toNat_natCast]; exact lt, rfl⟩) fun c H5 hc e5 h5 => ?_
    refine q_asgL (by walk_at "el") fun d H6 hd e6 h6 => ?_
    have LL := longs_len p row row.length
    refine q_asgL (by walk_at "el") fun g H7 hg e7 h7 => ?_
    have hll : (longsL p row row.length).length ≤ 1000 := by omega
    refine q_when (b := !decide (longsL p row row.length = longsL p row row.length) || !PyData.eqv (dl row) (dl row)) (by walk_at "et") (fun hb H8 e8 => ?_) (fun hb H8 e8 => ?_)
    · rw [eqv_dl] at hb
      simp at hb
    have dc : Dp K H6 (.ref c) (dl (longsL p row row.length)) := by walk_at "dp"
    have dd : Dp K H6 (.ref d) (dl row) := by walk_at "dp"
    have hgl : H8 g = some (.lst ((longsL p row row.length).map V.int)) := by walk_at "at"
    refine q_appI hgl (by walk_at "ev") (by walk_at "ev") (by omega) fun H9 e9 => ?_
    have eX : Ex H6 (upd H9 g (.lst ((longsL p row row.length ++ [0]).map V.int))) := Ex.mut (e7.trans (e8.trans e9)) hg
    have dc := dpx eX dc
    have dd := dpx eX dd
    generalize (upd H9 g (.lst ((longsL p row row.length ++ [0]).map V.int))) = H10 at dc dd ⊢
    refine s_ret (v := .bl true) (ev_is (v := .bl (decide (longsL p row row.length = longsL p row row.length))) (by walk_at "ev") ?_) fun H11 _ => q H11
    simp
end
/-! ### what the top has written -/
theorem txt_mk {l : PySem.W.OpenLaw} {w : World} {K : PySem.W.Frag} {h : Heap} {mg : PySem.Str → Option Value} {fa : Addr} (X : K.In h) (G : h.Ns mainGlobals mg) (hfa : mg "law" = some (.ref fa))
    {f0 f1 f2 f3 f4 f5 f6 f7 f8 f9 f10 f11 f12 f13 f14 f15 f16 f17 f18 f19 : Addr} {od0 an0 od1 an1 od2 an2 od3 an3 od4 an4 od5 an5 od6 an6 od7 an7 od8 an8 od9 an9 od10 an10 od11 an11 od12 an12 od13 an13 od14 an14 od15 an15 od16 an16 od17 an17 od18 an18 od19 an19 : Option Addr} {sl0 sl1 sl2 sl3 sl4 sl5 sl6 sl7 sl8 sl9 sl10 sl11 sl12 sl13 sl14 sl15 sl16 sl17 sl18 sl19 : Array (Option Value)} {oc0 kV0 dc0 pm0 cd0 ct0 oc1 kV1 dc1 pm1 cd1 ct1 oc2 kV2 dc2 pm2 cd2 ct2 oc3 kV3 dc3 pm3 cd3 ct3 oc4 kV4 dc4 pm4 cd4 ct4 oc5 kV5 dc5 pm5 cd5 ct5 oc6 kV6 dc6 pm6 cd6 ct6 oc7 kV7 dc7 pm7 cd7 ct7 oc8 kV8 dc8 pm8 cd8 ct8 oc9 kV9 dc9 pm9 cd9 ct9 oc10 kV10 dc10 pm10 cd10 ct10 oc11 kV11 dc11 pm11 cd11 ct11 oc12 kV12 dc12 pm12 cd12 ct12 oc13 kV13 dc13 pm13 cd13 ct13 oc14 kV14 dc14 pm14 cd14 ct14 oc15 kV15 dc15 pm15 cd15 ct15 oc16 kV16 dc16 pm16 cd16 ct16 oc17 kV17 dc17 pm17 cd17 ct17 oc18 kV18 dc18 pm18 cd18 ct18 oc19 kV19 dc19 pm19 cd19 ct19 : Value} {t_MOST : Tok}
    (a0 : PySem.W.nsIn K mainGlobals "_law_next" = some (some (.ref f0))) (l0 : K.lookup f0 = some ⟨oc0, od0, .func (PySem.W.fnOf "_law_next" "_law_next" (defArgs s__law_next) (defBody s__law_next) (defScope s__law_next) .none kV0 dc0 pm0 an0 cd0 ct0), sl0⟩) (c0 : PySem.W.codeIn K cd0 "_law_next" = true) (k0 : PySem.W.keepIn K (.ref f0) = true)
    (a1 : PySem.W.nsIn K mainGlobals "_law_numbers" = some (some (.ref f1))) (l1 : K.lookup f1 = some ⟨oc1, od1, .func (PySem.W.fnOf "_law_numbers" "_law_numbers" (defArgs s__law_numbers) (defBody s__law_numbers) (defScope s__law_numbers) .none kV1 dc1 pm1 an1 cd1 ct1), sl1⟩) (c1 : PySem.W.codeIn K cd1 "_law_numbers" = true) (k1 : PySem.W.keepIn K (.ref f1) = true)
    (a2 : PySem.W.nsIn K mainGlobals "is_prime" = some (some (.ref f2))) (l2 : K.lookup f2 = some ⟨oc2, od2, .func (PySem.W.fnOf "is_prime" "is_prime" (defArgs s_is_prime) (defBody s_is_prime) (defScope s_is_prime) .none kV2 dc2 pm2 an2 cd2 ct2), sl2⟩) (c2 : PySem.W.codeIn K cd2 "is_prime" = true) (k2 : PySem.W.keepIn K (.ref f2) = true)
    (a3 : PySem.W.nsIn K mainGlobals "ask_prime" = some (some (.ref f3))) (l3 : K.lookup f3 = some ⟨oc3, od3, .func (PySem.W.fnOf "ask_prime" "ask_prime" (defArgs s_ask_prime) (defBody s_ask_prime) (defScope s_ask_prime) .none kV3 dc3 pm3 an3 cd3 ct3), sl3⟩) (c3 : PySem.W.codeIn K cd3 "ask_prime" = true) (k3 : PySem.W.keepIn K (.ref f3) = true)
    (a4 : PySem.W.nsIn K mainGlobals "are_numbers" = some (some (.ref f4))) (l4 : K.lookup f4 = some ⟨oc4, od4, .func (PySem.W.fnOf "are_numbers" "are_numbers" (defArgs s_are_numbers) (defBody s_are_numbers) (defScope s_are_numbers) .none kV4 dc4 pm4 an4 cd4 ct4), sl4⟩) (c4 : PySem.W.codeIn K cd4 "are_numbers" = true) (k4 : PySem.W.keepIn K (.ref f4) = true)
    (a5 : PySem.W.nsIn K mainGlobals "ask_row" = some (some (.ref f5))) (l5 : K.lookup f5 = some ⟨oc5, od5, .func (PySem.W.fnOf "ask_row" "ask_row" (defArgs s_ask_row) (defBody s_ask_row) (defScope s_ask_row) .none kV5 dc5 pm5 an5 cd5 ct5), sl5⟩) (c5 : PySem.W.codeIn K cd5 "ask_row" = true) (k5 : PySem.W.keepIn K (.ref f5) = true)
    (a6 : PySem.W.nsIn K mainGlobals "fault" = some (some (.ref f6))) (l6 : K.lookup f6 = some ⟨oc6, od6, .func (PySem.W.fnOf "fault" "fault" (defArgs s_fault) (defBody s_fault) (defScope s_fault) .none kV6 dc6 pm6 an6 cd6 ct6), sl6⟩) (c6 : PySem.W.codeIn K cd6 "fault" = true) (k6 : PySem.W.keepIn K (.ref f6) = true)
    (a7 : PySem.W.nsIn K mainGlobals "held_at" = some (some (.ref f7))) (l7 : K.lookup f7 = some ⟨oc7, od7, .func (PySem.W.fnOf "held_at" "held_at" (defArgs s_held_at) (defBody s_held_at) (defScope s_held_at) .none kV7 dc7 pm7 an7 cd7 ct7), sl7⟩) (c7 : PySem.W.codeIn K cd7 "held_at" = true) (k7 : PySem.W.keepIn K (.ref f7) = true)
    (a8 : PySem.W.nsIn K mainGlobals "mended" = some (some (.ref f8))) (l8 : K.lookup f8 = some ⟨oc8, od8, .func (PySem.W.fnOf "mended" "mended" (defArgs s_mended) (defBody s_mended) (defScope s_mended) .none kV8 dc8 pm8 an8 cd8 ct8), sl8⟩) (c8 : PySem.W.codeIn K cd8 "mended" = true) (k8 : PySem.W.keepIn K (.ref f8) = true)
    (a9 : PySem.W.nsIn K mainGlobals "inverse" = some (some (.ref f9))) (l9 : K.lookup f9 = some ⟨oc9, od9, .func (PySem.W.fnOf "inverse" "inverse" (defArgs s_inverse) (defBody s_inverse) (defScope s_inverse) .none kV9 dc9 pm9 an9 cd9 ct9), sl9⟩) (c9 : PySem.W.codeIn K cd9 "inverse" = true) (k9 : PySem.W.keepIn K (.ref f9) = true)
    (a10 : PySem.W.nsIn K mainGlobals "found_by" = some (some (.ref f10))) (l10 : K.lookup f10 = some ⟨oc10, od10, .func (PySem.W.fnOf "found_by" "found_by" (defArgs s_found_by) (defBody s_found_by) (defScope s_found_by) .none kV10 dc10 pm10 an10 cd10 ct10), sl10⟩) (c10 : PySem.W.codeIn K cd10 "found_by" = true) (k10 : PySem.W.keepIn K (.ref f10) = true)
    (a11 : PySem.W.nsIn K mainGlobals "lengths" = some (some (.ref f11))) (l11 : K.lookup f11 = some ⟨oc11, od11, .func (PySem.W.fnOf "lengths" "lengths" (defArgs s_lengths) (defBody s_lengths) (defScope s_lengths) .none kV11 dc11 pm11 an11 cd11 ct11), sl11⟩) (c11 : PySem.W.codeIn K cd11 "lengths" = true) (k11 : PySem.W.keepIn K (.ref f11) = true)
    (a12 : PySem.W.nsIn K mainGlobals "_law_whole" = some (some (.ref f12))) (l12 : K.lookup f12 = some ⟨oc12, od12, .func (PySem.W.fnOf "_law_whole" "_law_whole" (defArgs s__law_whole) (defBody s__law_whole) (defScope s__law_whole) .none kV12 dc12 pm12 an12 cd12 ct12), sl12⟩) (c12 : PySem.W.codeIn K cd12 "_law_whole" = true) (k12 : PySem.W.keepIn K (.ref f12) = true)
    (a13 : PySem.W.nsIn K mainGlobals "_law_alike" = some (some (.ref f13))) (l13 : K.lookup f13 = some ⟨oc13, od13, .func (PySem.W.fnOf "_law_alike" "_law_alike" (defArgs s__law_alike) (defBody s__law_alike) (defScope s__law_alike) .none kV13 dc13 pm13 an13 cd13 ct13), sl13⟩) (c13 : PySem.W.codeIn K cd13 "_law_alike" = true) (k13 : PySem.W.keepIn K (.ref f13) = true)
    (a14 : PySem.W.nsIn K mainGlobals "_law_cell_at" = some (some (.ref f14))) (l14 : K.lookup f14 = some ⟨oc14, od14, .func (PySem.W.fnOf "_law_cell_at" "_law_cell_at" (defArgs s__law_cell_at) (defBody s__law_cell_at) (defScope s__law_cell_at) .none kV14 dc14 pm14 an14 cd14 ct14), sl14⟩) (c14 : PySem.W.codeIn K cd14 "_law_cell_at" = true) (k14 : PySem.W.keepIn K (.ref f14) = true)
    (a15 : PySem.W.nsIn K mainGlobals "_law_all" = some (some (.ref f15))) (l15 : K.lookup f15 = some ⟨oc15, od15, .func (PySem.W.fnOf "_law_all" "_law_all" (defArgs s__law_all) (defBody s__law_all) (defScope s__law_all) .none kV15 dc15 pm15 an15 cd15 ct15), sl15⟩) (c15 : PySem.W.codeIn K cd15 "_law_all" = true) (k15 : PySem.W.keepIn K (.ref f15) = true)
    (a16 : PySem.W.nsIn K mainGlobals "_law_tells" = some (some (.ref f16))) (l16 : K.lookup f16 = some ⟨oc16, od16, .func (PySem.W.fnOf "_law_tells" "_law_tells" (defArgs s__law_tells) (defBody s__law_tells) (defScope s__law_tells) .none kV16 dc16 pm16 an16 cd16 ct16), sl16⟩) (c16 : PySem.W.codeIn K cd16 "_law_tells" = true) (k16 : PySem.W.keepIn K (.ref f16) = true)
    (a17 : PySem.W.nsIn K mainGlobals "_law_goes" = some (some (.ref f17))) (l17 : K.lookup f17 = some ⟨oc17, od17, .func (PySem.W.fnOf "_law_goes" "_law_goes" (defArgs s__law_goes) (defBody s__law_goes) (defScope s__law_goes) .none kV17 dc17 pm17 an17 cd17 ct17), sl17⟩) (c17 : PySem.W.codeIn K cd17 "_law_goes" = true) (k17 : PySem.W.keepIn K (.ref f17) = true)
    (a18 : PySem.W.nsIn K mainGlobals "_law_least" = some (some (.ref f18))) (l18 : K.lookup f18 = some ⟨oc18, od18, .func (PySem.W.fnOf "_law_least" "_law_least" (defArgs s__law_least) (defBody s__law_least) (defScope s__law_least) .none kV18 dc18 pm18 an18 cd18 ct18), sl18⟩) (c18 : PySem.W.codeIn K cd18 "_law_least" = true) (k18 : PySem.W.keepIn K (.ref f18) = true)
    (a19 : PySem.W.nsIn K mainGlobals "law" = some (some (.ref f19))) (l19 : K.lookup f19 = some ⟨oc19, od19, .func (PySem.W.fnOf "law" "law" (defArgs s_law) (defBody s_law) (defScope s_law) .none kV19 dc19 pm19 an19 cd19 ct19), sl19⟩) (c19 : PySem.W.codeIn K cd19 "law" = true) (k19 : PySem.W.keepIn K (.ref f19) = true)
    (z0 : PySem.W.nsIn K mainGlobals "all" = some none)
    (z1 : PySem.W.nsIn K mainGlobals "range" = some none)
    (z2 : PySem.W.nsIn K mainGlobals "len" = some none)
    (z3 : PySem.W.nsIn K mainGlobals "max" = some none)
    (z4 : PySem.W.nsIn K mainGlobals "sum" = some none)
    (z5 : PySem.W.nsIn K mainGlobals "isinstance" = some none)
    (z6 : PySem.W.nsIn K mainGlobals "int" = some none)
    (z7 : PySem.W.nsIn K mainGlobals "bool" = some none)
    (z8 : PySem.W.nsIn K mainGlobals "list" = some none)
    (y0 : PySem.W.nsIn K mainGlobals "MOST" = some (some (.int 30 t_MOST)))
    : ∃ fd : FuncData, (∀ (s : Shared) (v : Value), BindsTo s fd ⟨[v], []⟩ [("script", v)]) ∧ ∀ base : Heap, K.In base → base.Ns mainGlobals mg → FnOk l.prog w K mg base CX0 5 fa fd ["script"] (sp_law K) := by
  have e := hfa.symm.trans (PySem.W.mg_of X G a19)
  cases e
  have F0 := fun_mk (st := s__law_next) l0 c0 k0
  have b0 := F0.binds (ps := ["seed"]) fun _ _ _ _ _ _ us hl => match us, hl with | [_], _ => rfl
  have F1 := fun_mk (st := s__law_numbers) l1 c1 k1
  have b1 := F1.binds (ps := ["p", "many", "cell"]) fun _ _ _ _ _ _ us hl => match us, hl with | [_, _, _], _ => rfl
  have F2 := fun_mk (st := s_is_prime) l2 c2 k2
  have b2 := F2.binds (ps := ["p"]) fun _ _ _ _ _ _ us hl => match us, hl with | [_], _ => rfl
  have F3 := fun_mk (st := s_ask_prime) l3 c3 k3
  have b3 := F3.binds (ps := ["p"]) fun _ _ _ _ _ _ us hl => match us, hl with | [_], _ => rfl
  have F4 := fun_mk (st := s_are_numbers) l4 c4 k4
  have b4 := F4.binds (ps := ["p", "some"]) fun _ _ _ _ _ _ us hl => match us, hl with | [_, _], _ => rfl
  have F5 := fun_mk (st := s_ask_row) l5 c5 k5
  have b5 := F5.binds (ps := ["p", "row"]) fun _ _ _ _ _ _ us hl => match us, hl with | [_, _], _ => rfl
  have F6 := fun_mk (st := s_fault) l6 c6 k6
  have b6 := F6.binds (ps := ["p", "row", "test", "place"]) fun _ _ _ _ _ _ us hl => match us, hl with | [_, _, _, _], _ => rfl
  have F7 := fun_mk (st := s_held_at) l7 c7 k7
  have b7 := F7.binds (ps := ["some", "place"]) fun _ _ _ _ _ _ us hl => match us, hl with | [_, _], _ => rfl
  have F8 := fun_mk (st := s_mended) l8 c8 k8
  have b8 := F8.binds (ps := ["p", "test", "older", "scale", "shift"]) fun _ _ _ _ _ _ us hl => match us, hl with | [_, _, _, _, _], _ => rfl
  have F9 := fun_mk (st := s_inverse) l9 c9 k9
  have b9 := F9.binds (ps := ["p", "number"]) fun _ _ _ _ _ _ us hl => match us, hl with | [_, _], _ => rfl
  have F10 := fun_mk (st := s_found_by) l10 c10 k10
  have b10 := F10.binds (ps := ["p", "row"]) fun _ _ _ _ _ _ us hl => match us, hl with | [_, _], _ => rfl
  have F11 := fun_mk (st := s_lengths) l11 c11 k11
  have b11 := F11.binds (ps := ["p", "row"]) fun _ _ _ _ _ _ us hl => match us, hl with | [_, _], _ => rfl
  have F12 := fun_mk (st := s__law_whole) l12 c12 k12
  have b12 := F12.binds (ps := ["found"]) fun _ _ _ _ _ _ us hl => match us, hl with | [_], _ => rfl
  have F13 := fun_mk (st := s__law_alike) l13 c13 k13
  have b13 := F13.binds (ps := ["found", "due"]) fun _ _ _ _ _ _ us hl => match us, hl with | [_, _], _ => rfl
  have F14 := fun_mk (st := s__law_cell_at) l14 c14 k14
  have b14 := F14.binds (ps := ["script", "k"]) fun _ _ _ _ _ _ us hl => match us, hl with | [_, _], _ => rfl
  have F15 := fun_mk (st := s__law_all) l15 c15 k15
  have b15 := F15.binds (ps := ["p", "long"]) fun _ _ _ _ _ _ us hl => match us, hl with | [_, _], _ => rfl
  have F16 := fun_mk (st := s__law_tells) l16 c16 k16
  have b16 := F16.binds (ps := ["p", "row", "rule"]) fun _ _ _ _ _ _ us hl => match us, hl with | [_, _, _], _ => rfl
  have F17 := fun_mk (st := s__law_goes) l17 c17 k17
  have b17 := F17.binds (ps := ["p", "row", "rule"]) fun _ _ _ _ _ _ us hl => match us, hl with | [_, _, _], _ => rfl
  have F18 := fun_mk (st := s__law_least) l18 c18 k18
  have b18 := F18.binds (ps := ["p", "row", "rules"]) fun _ _ _ _ _ _ us hl => match us, hl with | [_, _, _], _ => rfl
  have F19 := fun_mk (st := s_law) l19 c19 k19
  have b19 := F19.binds (ps := ["script"]) fun _ _ _ _ _ _ us hl => match us, hl with | [_], _ => rfl
  have T : Txt K mg := ⟨⟨_, _, PySem.W.mg_of X G a0, F0, b0⟩, ⟨_, _, PySem.W.mg_of X G a1, F1, b1⟩, ⟨_, _, PySem.W.mg_of X G a2, F2, b2⟩, ⟨_, _, PySem.W.mg_of X G a3, F3, b3⟩, ⟨_, _, PySem.W.mg_of X G a4, F4, b4⟩, ⟨_, _, PySem.W.mg_of X G a5, F5, b5⟩, ⟨_, _, PySem.W.mg_of X G a6, F6, b6⟩, ⟨_, _, PySem.W.mg_of X G a7, F7, b7⟩, ⟨_, _, PySem.W.mg_of X G a8, F8, b8⟩, ⟨_, _, PySem.W.mg_of X G a9, F9, b9⟩, ⟨_, _, PySem.W.mg_of X G a10, F10, b10⟩, ⟨_, _, PySem.W.mg_of X G a11, F11, b11⟩, ⟨_, _, PySem.W.mg_of X G a12, F12, b12⟩, ⟨_, _, PySem.W.mg_of X G a13, F13, b13⟩, ⟨_, _, PySem.W.mg_of X G a14, F14, b14⟩, ⟨_, _, PySem.W.mg_of X G a15, F15, b15⟩, ⟨_, _, PySem.W.mg_of X G a16, F16, b16⟩, ⟨_, _, PySem.W.mg_of X G a17, F17, b17⟩, ⟨_, _, PySem.W.mg_of X G a18, F18, b18⟩, ⟨_, _, PySem.W.mg_of X G a19, F19, b19⟩, PySem.W.mg_none_of X G z0, PySem.W.mg_none_of X G z1, PySem.W.mg_none_of X G z2, PySem.W.mg_none_of X G z3, PySem.W.mg_none_of X G z4, PySem.W.mg_none_of X G z5, PySem.W.mg_none_of X G z6, PySem.W.mg_none_of X G z7, PySem.W.mg_none_of X G z8, ⟨_, PySem.W.mg_of X G y0⟩⟩
  exact ⟨_, fun s v => .of_eq rfl, fun base _ _ => ok_law F19 T⟩
end RF
open PySem PySem.W PyProof.Rows
set_option maxHeartbeats 0 in
theorem PySem.Challenge.cw_rulefound_k04_lengths_by_all_rules_holds : PySem.Challenge.rw_rulefound_k04_lengths_by_all_rules.Holds := by
  w_on; o_law; k_head; (case hw => w_witness2)
  k_fill
  refine L2.walk_of (l := PySem.Challenge.rw_rulefound_k04_lengths_by_all_rules) (n := 63) (k := 5) (x := "script") (CX := fun _ => L2.CX0) (sp := fun w => RF.sp_law _) rfl (by decide) rfl ⟨rfl, by decide, by decide⟩ (fun w h Y => PySem.W.kIn_of Y) ?F (fun _ _ a ns hl _ hS => RF.sp_law_go hl hS) (fun _ _ _ _ _ h => h)
  case F =>
    intro w mg fa h KX G hmg
    refine' RF.txt_mk KX G hmg ?a0 ?l0 ?c0 ?k0 ?a1 ?l1 ?c1 ?k1 ?a2 ?l2 ?c2 ?k2 ?a3 ?l3 ?c3 ?k3 ?a4 ?l4 ?c4 ?k4 ?a5 ?l5 ?c5 ?k5 ?a6 ?l6 ?c6 ?k6 ?a7 ?l7 ?c7 ?k7 ?a8 ?l8 ?c8 ?k8 ?a9 ?l9 ?c9 ?k9 ?a10 ?l10 ?c10 ?k10 ?a11 ?l11 ?c11 ?k11 ?a12 ?l12 ?c12 ?k12 ?a13 ?l13 ?c13 ?k13 ?a14 ?l14 ?c14 ?k14 ?a15 ?l15 ?c15 ?k15 ?a16 ?l16 ?c16 ?k16 ?a17 ?l17 ?c17 ?k17 ?a18 ?l18 ?c18 ?k18 ?a19 ?l19 ?c19 ?k19 ?z0 ?z1 ?z2 ?z3 ?z4 ?z5 ?z6 ?z7 ?z8 ?y0
    (case a0 => k_is); (case l0 => k_is); (case c0 => k_is); (case k0 => k_is)
    (case a1 => k_is); (case l1 => k_is); (case c1 => k_is); (case k1 => k_is)
    (case a2 => k_is); (case l2 => k_is); (case c2 => k_is); (case k2 => k_is)
    (case a3 => k_is); (case l3 => k_is); (case c3 => k_is); (case k3 => k_is)
    (case a4 => k_is); (case l4 => k_is); (case c4 => k_is); (case k4 => k_is)
    (case a5 => k_is); (case l5 => k_is); (case c5 => k_is); (case k5 => k_is)
    (case a6 => k_is); (case l6 => k_is); (case c6 => k_is); (case k6 => k_is)
    (case a7 => k_is); (case l7 => k_is); (case c7 => k_is); (case k7 => k_is)
    (case a8 => k_is); (case l8 => k_is); (case c8 => k_is); (case k8 => k_is)
    (case a9 => k_is); (case l9 => k_is); (case c9 => k_is); (case k9 => k_is)
    (case a10 => k_is); (case l10 => k_is); (case c10 => k_is); (case k10 => k_is)
    (case a11 => k_is); (case l11 => k_is); (case c11 => k_is); (case k11 => k_is)
    (case a12 => k_is); (case l12 => k_is); (case c12 => k_is); (case k12 => k_is)
    (case a13 => k_is); (case l13 => k_is); (case c13 => k_is); (case k13 => k_is)
    (case a14 => k_is); (case l14 => k_is); (case c14 => k_is); (case k14 => k_is)
    (case a15 => k_is); (case l15 => k_is); (case c15 => k_is); (case k15 => k_is)
    (case a16 => k_is); (case l16 => k_is); (case c16 => k_is); (case k16 => k_is)
    (case a17 => k_is); (case l17 => k_is); (case c17 => k_is); (case k17 => k_is)
    (case a18 => k_is); (case l18 => k_is); (case c18 => k_is); (case k18 => k_is)
    (case a19 => k_is); (case l19 => k_is); (case c19 => k_is); (case k19 => k_is)
    (case z0 => k_is)
    (case z1 => k_is)
    (case z2 => k_is)
    (case z3 => k_is)
    (case z4 => k_is)
    (case z5 => k_is)
    (case z6 => k_is)
    (case z7 => k_is)
    (case z8 => k_is)
    (case y0 => k_is)
