import PyProof.Rows.All
import Wide.All
import OpenK.AllK
import Wide.FinOn
import HandS.ForMost
import HandS.Evl
import HandS.Style
import HandS.IsInst
import HandS.Steps
import HandS.Text
import HandS.ForExc
import HandS.Walk
import HandS.ExcIs
import HandS.HotCalls
import HandS.SuiteRaise
import HandS.Replace
import HandS.ReplaceLit
import KE.GoesRaise
import PySem.Challenge.RW_rulefound_k17_unread
set_option Elab.async false
set_option linter.all false
set_option maxRecDepth 100000
set_option maxHeartbeats 4000000

namespace RF
/-! ### plain mathematics: lists of ints, rows, rules -/
/-- a list's place -/
def gi (ns : List Int) (i : Int) : Int := ns.getD i.toNat 0
/-- numbers by p -/
def Nums (p : Int) (ns : List Int) : Prop := ∀ x ∈ ns, 0 ≤ x ∧ x < p
theorem gi_nat (ns : List Int) (i : Nat) : gi ns (i : Int) = ns.getD i 0 := by unfold gi; rw [Int.toNat_natCast]
theorem gi_mem {ns : List Int} {i : Int} (h0 : 0 ≤ i) (h1 : i < ns.length) : gi ns i ∈ ns := by
  have h : i.toNat < ns.length := by omega
  unfold gi
  rw [List.getD_eq_getElem?_getD, List.getElem?_eq_getElem h]
  exact List.getElem_mem h
theorem gi_nums {p : Int} {ns : List Int} {i : Int} (hn : Nums p ns) (h0 : 0 ≤ i) (h1 : i < ns.length) : 0 ≤ gi ns i ∧ gi ns i < p := hn _ (gi_mem h0 h1)
/-- the partial sums of a mixture -/
def dotN (row rule : List Int) : Nat → Int
  | 0 => 0
  | k + 1 => dotN row rule k + gi rule (k : Int) * gi row ((row.length : Int) - 1 - (k : Int))
def nextOf (p : Int) (row rule : List Int) : Int := dotN row rule rule.length % p
theorem sum_range (f : Nat → Int) (g : Nat → Int) (h0 : g 0 = 0) (hs : ∀ k, g (k + 1) = g k + f k) : ∀ n, ((List.range n).map f).sum = g n
  | 0 => by simp [h0]
  | n + 1 => by
    rw [List.range_succ, List.map_append, List.sum_append, sum_range f g h0 hs n, hs]
    simp
/-- whether a row goes by a rule -/
def goesB (p : Int) (row rule : List Int) : Bool := (List.range (row.length - rule.length)).all fun i => decide (gi row ((rule.length : Int) + (i : Int)) = nextOf p (row.take (rule.length + i)) rule)
def areNums (p : Int) (sm : List Int) : Bool := decide ((sm.length : Int) ≤ 30) && (sm.map fun x => decide (0 ≤ x) && decide (x < p)).all id
theorem areNums_of {p : Int} {ns : List Int} (h : ns.length ≤ 30) (hn : Nums p ns) : areNums p ns = true := by
  unfold areNums
  rw [Bool.and_eq_true]
  refine ⟨decide_eq_true (by omega), ?_⟩
  rw [List.all_eq_true]
  intro b hb
  rw [List.mem_map] at hb
  obtain ⟨x, hx, rfl⟩ := hb
  have := hn x hx
  simp [this.1, this.2]
def isPrime (p : Int) : Bool := if (decide (2 ≤ p) && decide (p ≤ 97)) = true then ((((List.range (p - 2).toNat).filter fun (i : Nat) => decide (((2 : Int) + (i : Int)) * (2 + (i : Int)) ≤ p)).map fun (i : Nat) => !decide (p % (2 + (i : Int)) = 0))).all id else false
def primes : List Int := [2, 3, 5, 7, 11, 13, 17, 19, 23, 29, 31, 37, 41, 43, 47, 53, 59, 61, 67, 71, 73, 79, 83, 89, 97]
theorem primes_prime : ∀ p ∈ primes, isPrime p = true := by decide +kernel
theorem primes_le : ∀ p ∈ primes, 2 ≤ p ∧ p ≤ 97 := by decide +kernel
/-! ### the laws' own numbers -/
def cellAt (script : List Int) (k : Int) : Int := if k < script.length then gi script k else 0
def lawNext (seed : Int) : Int := (((seed + 7919) % 2147483647) * ((seed + 7919) % 2147483647) + 48271 * ((seed + 7919) % 2147483647) + 12345) % 2147483629
def lawPrime (cell : Int) : Int := if cell % 3 > 0 then gi primes (cell / 3 % 4) else gi primes (cell / 3 % 25)
theorem lawPrime_mem (cell : Int) : lawPrime cell ∈ primes := by
  unfold lawPrime
  split
  · exact gi_mem (by omega) (by show _ < ((25 : Nat) : Int); omega)
  · exact gi_mem (by omega) (by show _ < ((25 : Nat) : Int); omega)
/-- the cells and the numbers told -/
def numCell (cell : Int) : Nat → Int
  | 0 => cell
  | k + 1 => lawNext (numCell cell k % 1000003 + 17 * (k : Int))
def lawNumsN (p cell : Int) (n : Nat) : List Int := (List.range n).map fun k => numCell cell (k + 1) / 7 % p
theorem lawNumsN_succ (p cell : Int) (n : Nat) : lawNumsN p cell (n + 1) = lawNumsN p cell n ++ [numCell cell (n + 1) / 7 % p] := by
  unfold lawNumsN
  rw [List.range_succ, List.map_append] <;> rfl
def lawNums (p many cell : Int) : List Int := lawNumsN p cell many.toNat
theorem lawNums_len (p many cell : Int) : (lawNums p many cell).length = many.toNat := by
  unfold lawNums lawNumsN
  rw [List.length_map, List.length_range]
theorem lawNums_nums {p : Int} (hp : 0 < p) (many cell : Int) : Nums p (lawNums p many cell) := by
  intro x hx
  unfold lawNums lawNumsN at hx
  rw [List.mem_map] at hx
  obtain ⟨k, _, rfl⟩ := hx
  exact ⟨Int.emod_nonneg _ (by omega), Int.emod_lt_of_pos _ hp⟩
/-- a row gone on with -/
def onBy (p : Int) (rule : List Int) (row : List Int) : Nat → List Int
  | 0 => row
  | k + 1 => onBy p rule row k ++ [nextOf p (onBy p rule row k) rule]
theorem onBy_len (p : Int) (rule row : List Int) : ∀ k, (onBy p rule row k).length = row.length + k
  | 0 => rfl
  | k + 1 => by
    show (onBy p rule row k ++ [_]).length = _
    rw [List.length_append, onBy_len p rule row k] <;> rfl
theorem nextOf_bounds {p : Int} (hp : 0 < p) (row rule : List Int) : 0 ≤ nextOf p row rule ∧ nextOf p row rule < p := ⟨Int.emod_nonneg _ (by omega), Int.emod_lt_of_pos _ hp⟩
theorem onBy_nums {p : Int} (hp : 0 < p) {rule row : List Int} (h : Nums p row) : ∀ k, Nums p (onBy p rule row k)
  | 0 => h
  | k + 1 => by
    intro x hx
    have hx : x ∈ onBy p rule row k ++ [nextOf p (onBy p rule row k) rule] := hx
    rw [List.mem_append] at hx
    rcases hx with hx | hx
    · exact onBy_nums hp h k x hx
    · rw [List.mem_singleton] at hx
      rw [hx]
      exact nextOf_bounds hp _ _
theorem Nums.take {p : Int} {ns : List Int} (h : Nums p ns) (n : Nat) : Nums p (ns.take n) := fun x hx => h x (List.mem_of_mem_take hx)
theorem Nums.drop {p : Int} {ns : List Int} (h : Nums p ns) (n : Nat) : Nums p (ns.drop n) := fun x hx => h x (List.mem_of_mem_drop hx)
theorem Nums.append {p : Int} {ns ms : List Int} (h : Nums p ns) (h2 : Nums p ms) : Nums p (ns ++ ms) := fun x hx => (List.mem_append.mp hx).elim (h x) (h2 x)
theorem Nums.nil {p : Int} : Nums p [] := fun x hx => by simp at hx
theorem Nums.one {p x : Int} (h0 : 0 ≤ x) (h1 : x < p) : Nums p [x] := fun y hy => by
  rw [List.mem_singleton] at hy
  subst hy
  exact ⟨h0, h1⟩
end RF
namespace RF
theorem goesB_not {p : Int} {row rule : List Int} {i : Nat} (hi : i < row.length - rule.length) (h : ¬ gi row ((rule.length : Int) + (i : Int)) = nextOf p (row.take (rule.length + i)) rule) : goesB p row rule = false := by
  unfold goesB
  rw [List.all_eq_false]
  exact ⟨i, List.mem_range.mpr hi, by rw [decide_eq_false h]; exact Bool.false_ne_true⟩
theorem goesB_yes {p : Int} {row rule : List Int} (h : ∀ i, i < row.length - rule.length → gi row ((rule.length : Int) + (i : Int)) = nextOf p (row.take (rule.length + i)) rule) : goesB p row rule = true := by
  unfold goesB
  rw [List.all_eq_true]
  exact fun i hi => decide_eq_true (h i (List.mem_range.mp hi))
end RF
namespace RF
theorem gi_lt {ns : List Int} {i : Nat} (h : i < ns.length) : gi ns (i : Int) = ns[i] := by
  rw [gi_nat, List.getD_eq_getElem?_getD, List.getElem?_eq_getElem h]
  rfl
theorem gi_ext {ns ms : List Int} (hl : ns.length = ms.length) (h : ∀ j, j < ms.length → gi ns (j : Int) = gi ms (j : Int)) : ns = ms :=
  List.ext_getElem hl fun i h1 h2 => by
    have q := h i h2
    rw [gi_lt h1, gi_lt h2] at q
    exact q
end RF
namespace RF
/-! ### sums and tables -/
def sumN (f : Nat → Int) : Nat → Int
  | 0 => 0
  | n + 1 => sumN f n + f n
theorem sumN_congr {f g : Nat → Int} : ∀ {n : Nat}, (∀ i, i < n → f i = g i) → sumN f n = sumN g n
  | 0, _ => rfl
  | n + 1, h => by
    show sumN f n + f n = sumN g n + g n
    rw [sumN_congr fun i hi => h i (Nat.lt_succ_of_lt hi), h n (Nat.lt_succ_self n)]
theorem sumN_zero {f : Nat → Int} : ∀ {n : Nat}, (∀ i, i < n → f i = 0) → sumN f n = 0
  | 0, _ => rfl
  | n + 1, h => by
    show sumN f n + f n = 0
    rw [sumN_zero fun i hi => h i (Nat.lt_succ_of_lt hi), h n (Nat.lt_succ_self n)]
    rfl
theorem sumN_add (f g : Nat → Int) : ∀ n, sumN (fun i => f i + g i) n = sumN f n + sumN g n
  | 0 => rfl
  | n + 1 => by
    show sumN (fun i => f i + g i) n + (f n + g n) = sumN f n + f n + (sumN g n + g n)
    rw [sumN_add f g n]
    omega
theorem sumN_sub (f g : Nat → Int) : ∀ n, sumN (fun i => f i - g i) n = sumN f n - sumN g n
  | 0 => rfl
  | n + 1 => by
    show sumN (fun i => f i - g i) n + (f n - g n) = sumN f n + f n - (sumN g n + g n)
    rw [sumN_sub f g n]
    omega
theorem sumN_mul (c : Int) (f : Nat → Int) : ∀ n, sumN (fun i => c * f i) n = c * sumN f n
  | 0 => by simp [sumN]
  | n + 1 => by
    show sumN (fun i => c * f i) n + c * f n = c * (sumN f n + f n)
    rw [sumN_mul c f n, Int.mul_add]
theorem sumN_head (f : Nat → Int) : ∀ n, sumN f (n + 1) = f 0 + sumN (fun i => f (i + 1)) n
  | 0 => by simp [sumN]
  | n + 1 => by
    show sumN f (n + 1) + f (n + 1) = f 0 + (sumN (fun i => f (i + 1)) n + f (n + 1))
    rw [sumN_head f n]
    omega
theorem sumN_rev : ∀ (f : Nat → Int) (n : Nat), sumN f n = sumN (fun i => f (n - 1 - i)) n
  | _, 0 => rfl
  | f, n + 1 => by
    rw [sumN_head (fun i => f (n + 1 - 1 - i)) n]
    show sumN f n + f n = f (n + 1 - 1 - 0) + sumN (fun i => f (n + 1 - 1 - (i + 1))) n
    rw [sumN_rev f n, show n + 1 - 1 - 0 = n by omega, Int.add_comm]
    congr 1
    exact sumN_congr fun i hi => by rw [show n + 1 - 1 - (i + 1) = n - 1 - i by omega]
/-- more turns that give nothing -/
theorem sumN_more {f : Nat → Int} {n m : Nat} (h : n ≤ m) (hz : ∀ i, n ≤ i → i < m → f i = 0) : sumN f m = sumN f n := by
  induction m with
  | zero =>
    have : n = 0 := by omega
    subst this
    rfl
  | succ m ih =>
    by_cases e : n = m + 1
    · subst e
      rfl
    · show sumN f m + f m = sumN f n
      rw [hz m (by omega) (by omega), ih (by omega) fun i h1 h2 => hz i h1 (by omega)]
      omega
theorem sumN_swap (f : Nat → Nat → Int) : ∀ n m, sumN (fun i => sumN (fun j => f i j) m) n = sumN (fun j => sumN (fun i => f i j) n) m
  | 0, m => by
    show 0 = sumN (fun j => 0) m
    rw [sumN_zero fun _ _ => rfl]
  | n + 1, m => by
    show sumN (fun i => sumN (fun j => f i j) m) n + sumN (fun j => f n j) m = sumN (fun j => sumN (fun i => f i j) n + f n j) m
    rw [sumN_add, sumN_swap f n m]
def tab (n : Nat) (f : Nat → Int) : List Int := (List.range n).map f
theorem tab_len (n : Nat) (f : Nat → Int) : (tab n f).length = n := by
  unfold tab
  rw [List.length_map, List.length_range]
theorem tab_succ (n : Nat) (f : Nat → Int) : tab (n + 1) f = tab n f ++ [f n] := by
  unfold tab
  rw [List.range_succ, List.map_append] <;> rfl
theorem tab_congr {n : Nat} {f g : Nat → Int} (h : ∀ i, i < n → f i = g i) : tab n f = tab n g := by
  unfold tab
  exact List.map_congr_left fun i hi => h i (List.mem_range.mp hi)
theorem tab_at {n : Nat} {f : Nat → Int} {i : Nat} (h : i < (tab n f).length) : (tab n f)[i] = f i := by
  simp [tab]
theorem tab_gi {n : Nat} {f : Nat → Int} {i : Nat} (h : i < n) : gi (tab n f) (i : Int) = f i := by
  rw [gi_lt (by rw [tab_len]; exact h), tab_at]
theorem tab_set {n : Nat} {f : Nat → Int} (i : Nat) (y : Int) : (tab n f).set i y = tab n fun m => if m = i then y else f m := by
  refine List.ext_getElem (by rw [List.length_set, tab_len, tab_len]) fun j h1 h2 => ?_
  rw [tab_at h2, List.getElem_set]
  by_cases e : i = j
  · rw [if_pos e, if_pos e.symm]
  · rw [if_neg e, if_neg (fun z : j = i => e z.symm), tab_at]
theorem tab_eta (ns : List Int) : tab ns.length (fun i => gi ns (i : Int)) = ns := by
  refine List.ext_getElem (tab_len _ _) fun j h1 h2 => ?_
  rw [tab_at, gi_lt h2]
theorem tab_map {n : Nat} {f : Nat → Int} (g : Int → Int) : (tab n f).map g = tab n fun i => g (f i) := by
  unfold tab
  rw [List.map_map]
  rfl
theorem gi_out {ns : List Int} {i : Nat} (h : ns.length ≤ i) : gi ns (i : Int) = 0 := by
  rw [gi_nat, List.getD_eq_getElem?_getD, List.getElem?_eq_none h]
  rfl
theorem tab_nums {p : Int} {n : Nat} {f : Nat → Int} (h : ∀ i, i < n → 0 ≤ f i ∧ f i < p) : Nums p (tab n f) := by
  intro x hx
  unfold tab at hx
  rw [List.mem_map] at hx
  obtain ⟨i, hi, rfl⟩ := hx
  exact h i (List.mem_range.mp hi)
/-! ### rules joined -/
def conv (one other : List Int) (m : Nat) : Int := sumN (fun j => gi one (j : Int) * gi other ((m - 1 - j : Nat) : Int)) m
theorem conv_comm (one other : List Int) (m : Nat) : conv one other m = conv other one m := by
  unfold conv
  rw [sumN_rev]
  refine sumN_congr fun i hi => ?_
  rw [show m - 1 - (m - 1 - i) = i by omega, Int.mul_comm]
theorem conv_nil (one : List Int) (m : Nat) : conv one [] m = 0 := sumN_zero fun i _ => by
  rw [gi_out (ns := []) (Nat.zero_le _), Int.mul_zero]
def joinedL (p : Int) (one other : List Int) : List Int := tab (one.length + other.length) fun m => (gi one (m : Int) + gi other (m : Int) - conv one other m) % p
theorem joinedL_comm (p : Int) (one other : List Int) : joinedL p one other = joinedL p other one := by
  unfold joinedL
  rw [Nat.add_comm]
  exact tab_congr fun i _ => by rw [conv_comm, Int.add_comm (gi one _)]
theorem joinedL_nil {p : Int} {one : List Int} (h : Nums p one) : joinedL p one [] = one := by
  have e : joinedL p one [] = tab one.length fun m => gi one (m : Int) := tab_congr fun i hi => by
    have hi : i < one.length := hi
    have b := gi_nums h (i := (i : Int)) (by omega) (by omega)
    rw [conv_nil, gi_out (ns := []) (Nat.zero_le _)]
    rw [Int.add_zero, Int.sub_zero, Int.emod_eq_of_lt b.1 b.2]
  rw [e, tab_eta]
/-- the joining's turns -/
def jF1 (one : List Int) (n m : Nat) : Int := if m < n then gi one (m : Int) else 0
def jP (one other : List Int) (m k : Nat) : Int := if k + 1 ≤ m then gi one ((m - 1 - k : Nat) : Int) * gi other (k : Int) else 0
def jF2 (one other : List Int) (k m : Nat) : Int := gi one (m : Int) + (if m < k then gi other (m : Int) else 0) - sumN (jP one other m) k
def jF3 (one other : List Int) (k j m : Nat) : Int := gi one (m : Int) + (if m < k + 1 then gi other (m : Int) else 0) - sumN (jP one other m) k - (if k + 1 ≤ m ∧ m < k + 1 + j then gi one ((m - 1 - k : Nat) : Int) * gi other (k : Int) else 0)
theorem jF1_end (one other : List Int) (m : Nat) : jF1 one one.length m = jF2 one other 0 m := by
  unfold jF1 jF2
  rw [if_neg (Nat.not_lt_zero m)]
  show _ = gi one (m : Int) + 0 - 0
  by_cases h : m < one.length
  · rw [if_pos h]
    omega
  · rw [if_neg h, gi_out (Nat.le_of_not_lt h)]
    rfl
theorem jF3_0 (one other : List Int) (k m : Nat) : (if m = k then jF2 one other k k + gi other (k : Int) else jF2 one other k m) = jF3 one other k 0 m := by
  unfold jF2 jF3
  rw [if_neg (show ¬ (k + 1 ≤ m ∧ m < k + 1 + 0) by omega)]
  by_cases h : m = k
  · subst h
    rw [if_pos rfl, if_neg (Nat.lt_irrefl m), if_pos (Nat.lt_succ_self m)]
    omega
  · rw [if_neg h]
    by_cases h2 : m < k
    · rw [if_pos h2, if_pos (show m < k + 1 by omega)]
      omega
    · rw [if_neg h2, if_neg (show ¬ m < k + 1 by omega)]
      omega
theorem jF3_s (one other : List Int) (k j m : Nat) : (if m = j + k + 1 then jF3 one other k j (j + k + 1) - gi one (j : Int) * gi other (k : Int) else jF3 one other k j m) = jF3 one other k (j + 1) m := by
  unfold jF3
  by_cases h : m = j + k + 1
  · subst h
    rw [if_pos rfl, if_neg (show ¬ (j + k + 1 < k + 1) by omega), if_neg (show ¬ (k + 1 ≤ j + k + 1 ∧ j + k + 1 < k + 1 + j) by omega), if_pos (show (k + 1 ≤ j + k + 1 ∧ j + k + 1 < k + 1 + (j + 1)) by omega), show j + k + 1 - 1 - k = j by omega]
    omega
  · rw [if_neg h]
    by_cases h2 : k + 1 ≤ m ∧ m < k + 1 + j
    · rw [if_pos h2, if_pos (show k + 1 ≤ m ∧ m < k + 1 + (j + 1) by omega)]
    · rw [if_neg h2, if_neg (show ¬ (k + 1 ≤ m ∧ m < k + 1 + (j + 1)) by omega)]
theorem jF3_end (one other : List Int) (k m : Nat) : jF3 one other k one.length m = jF2 one other (k + 1) m := by
  unfold jF3 jF2
  show _ = _ - (sumN (jP one other m) k + jP one other m k)
  unfold jP
  by_cases h : k + 1 ≤ m ∧ m < k + 1 + one.length
  · rw [if_pos h, if_pos h.1]
    omega
  · rw [if_neg h]
    by_cases h2 : k + 1 ≤ m
    · rw [if_pos h2, gi_out (ns := one) (show one.length ≤ m - 1 - k by omega)]
      omega
    · rw [if_neg h2]
      omega
theorem jF2_end (one other : List Int) (m : Nat) : jF2 one other other.length m = gi one (m : Int) + gi other (m : Int) - conv one other m := by
  have e1 : (if m < other.length then gi other (m : Int) else 0) = gi other (m : Int) := by
    by_cases h : m < other.length
    · rw [if_pos h]
    · rw [if_neg h, gi_out (Nat.le_of_not_lt h)]
  have e2 : sumN (jP one other m) other.length = conv one other m := by
    have a1 : sumN (jP one other m) (other.length + m) = sumN (jP one other m) other.length := sumN_more (by omega) fun i h1 _ => by
      unfold jP
      rw [gi_out (ns := other) h1, Int.mul_zero]
      split <;> rfl
    have a2 : sumN (jP one other m) (other.length + m) = sumN (jP one other m) m := sumN_more (by omega) fun i h1 _ => if_neg (by omega)
    rw [← a1, a2]
    unfold conv
    rw [sumN_rev (fun j => gi one (j : Int) * gi other ((m - 1 - j : Nat) : Int))]
    refine sumN_congr fun i hi => ?_
    unfold jP
    rw [if_pos (by omega), show m - 1 - (m - 1 - i) = i by omega]
  unfold jF2
  rw [e1, e2]
end RF

namespace RF
open PySem PySem.Spec PyProof.Rows L2 Evl

/-! ### defs that stand at the top, and what they promise -/
structure DefAt (K : PySem.W.Frag) (mg : PySem.Str → Option Value) (x : PySem.Str) (st : Stmt) (ps : List PySem.Str) : Prop where
  ex : ∃ f fd, mg x = some (.ref f) ∧ Fun K x x st f fd ∧ Binds K fd ps []
structure DefOk (P : Program) (w : World) (K : PySem.W.Frag) (mg : PySem.Str → Option Value) (base : Heap) (CX : CXT) (k : Nat) (x : PySem.Str) (ps : List PySem.Str) (sp : Sp) : Prop where
  ex : ∃ f fd, mg x = some (.ref f) ∧ PySem.W.keepIn K (.ref f) = true ∧ Binds K fd ps [] ∧ FnOk P w K mg base CX k f fd ps sp
section
variable {P : Program} {w : World} {K : PySem.W.Frag} {mg : PySem.Str → Option Value} {base : Heap}
theorem DefAt.ok {x : PySem.Str} {st : Stmt} {N ps : List PySem.Str} {k : Nat} {sp : Sp} (A : DefAt K mg x st ps) (S : FnScope N ps (defScope st)) (len : ∀ vs H Q E, sp vs H Q E → vs.length = ps.length)
    (hbody : ∀ (f : Addr) (cdv : Value) (A : Around) (outer : List Env) (s : Shared) (H : Hp) (vs : List V) (Q : VK) (E : XK), Room k (A.deeper (envOfC x (defScope st) s.heap.objs.size f cdv)) → sp vs H Q E →
      ∃ t, PSs (cxOf CX0 P w K mg base N x (defScope st) f cdv A outer s H E).nox (defBody st) t ∧ t { nx := fun _ H' => Q .non H', rt := Q } (start N vs) H) : DefOk P w K mg base CX0 (k + 1) x ps sp := by
  obtain ⟨f, fd, hm, F, b⟩ := A.ex
  exact ⟨f, fd, hm, F.kp, b, F.ok S len (hbody f)⟩
theorem DefOk.mono {CX : CXT} {j k : Nat} {x : PySem.Str} {ps : List PySem.Str} {sp : Sp} (D : DefOk P w K mg base CX j x ps sp) (h : j ≤ k) : DefOk P w K mg base CX k x ps sp := by
  obtain ⟨f, fd, hm, kp, b, F⟩ := D.ex
  exact ⟨f, fd, hm, kp, b, F.mono h⟩
theorem DefOk.imp {CX : CXT} {k : Nat} {x : PySem.Str} {ps : List PySem.Str} {sp sp' : Sp} (D : DefOk P w K mg base CX k x ps sp) (h : ∀ vs H Q E, sp' vs H Q E → sp vs H Q E) : DefOk P w K mg base CX k x ps sp' := by
  obtain ⟨f, fd, hm, kp, b, F⟩ := D.ex
  exact ⟨f, fd, hm, kp, b, F.imp h⟩
end
/-- a call of such a def -/
theorem pe_cd {X : Cx} {k : Nat} {x : PySem.Str} {ps : List PySem.Str} {sp : Sp} {e : Expr} {es : List Expr} {t : TA} {p pos : Pos} (D : DefOk X.prog X.w X.K X.mg X.base CX0 k x ps sp) (hr : Room k X.A) (hg : Gl X x) (ha : PA X (e :: es) t)
    (hdb : (x == ("__debug__" : PySem.Str)) = false := by decide) (he : starEach (e :: es) X.env = (false, eval e X.env) :: starEach es X.env := by rfl) (hpl : (backTo pos (starEach es X.env)).any (·.1) = false := by rfl) :
    PE X (.Call (.Name x p) (e :: es) [] pos) (tCall sp [] E0 t) := by
  obtain ⟨f, fd, hm, kp, b, F⟩ := D.ex
  exact pe_call F hr hg hm kp b .nil pass0 ha hdb he hpl
/-- a module's int -/
theorem pe_gi {X : Cx} {x : PySem.Str} {i : Int} {pos : Pos} (hg : Gl X x) (hm : ∃ t, X.mg x = some (.int i t)) (hd : (x == ("__debug__" : PySem.Str)) = false := by decide) : PE X (.Name x pos) (tC (.int i)) := by
  obtain ⟨t, hm⟩ := hm
  exact pe_glob hg hm ⟨t, rfl⟩ hd
theorem pe_gs {X : Cx} {x : PySem.Str} {i : PySem.Str} {pos : Pos} (hg : Gl X x) (hm : ∃ t, X.mg x = some (.str i t)) (hd : (x == ("__debug__" : PySem.Str)) = false := by decide) : PE X (.Name x pos) (tC (.str i)) := by
  obtain ⟨t, hm⟩ := hm
  exact pe_glob hg hm ⟨t, rfl⟩ hd

/-! ### data -/
/-- a list of ints -/
def dl (ns : List Int) : PyData := .list (ns.map PyData.int)
theorem ex_at {H1 H : Hp} {a : Addr} {o : HO} (e : Ex H1 H) (h : H1 a = some o) : H a = some o := e a o h
section
variable {K : PySem.W.Frag} {σ : L2.St} {H H' : Hp} {ta tb tc te tx : TE} {t u : TT} {x y z v : V} {r : R2} {d : PyData}
mutual
theorem dp_ex (e : Ex H H') : ∀ (d : PyData) (v : V), Dp K H v d → Dp K H' v d
  | .none, _, h => by cases h; exact .non
  | .bool _, _, h => by cases h; exact .bl _
  | .int _, _, h => by cases h; exact .int _
  | .str _, _, h => by cases h; exact .str _
  | .list ds, _, h => by
    cases h with
    | lst a b => exact .lst (ex_l e a) (dpAll_ex e ds _ b)
  | .tuple ds, _, h => by
    cases h with
    | tup a b => exact .tup (ex_t e a) (dpAll_ex e ds _ b)
  | .dict _, _, h => by cases h
theorem dpAll_ex (e : Ex H H') : ∀ (ds : List PyData) (vs : List V), DpAll K H vs ds → DpAll K H' vs ds
  | [], _, h => by cases h; exact .nil
  | d :: ds, _, h => by
    cases h with
    | cons a b => exact .cons (dp_ex e d _ a) (dpAll_ex e ds _ b)
end
theorem dpx (e : Ex H H') (h : Dp K H v d) : Dp K H' v d := dp_ex e d v h
theorem dp_int {i : Int} (h : Dp K H v (.int i)) : v = .int i := by cases h; rfl
theorem dp_bool {i : Bool} (h : Dp K H v (.bool i)) : v = .bl i := by cases h; rfl
theorem dp_str {i : PySem.Str} (h : Dp K H v (.str i)) : v = .str i := by cases h; rfl
theorem dpAll_ints : ∀ ns : List Int, DpAll K H (ns.map V.int) (ns.map PyData.int)
  | [] => .nil
  | n :: ns => .cons (.int n) (dpAll_ints ns)
theorem dpAll_ints' : ∀ (ns : List Int) (vs : List V), DpAll K H vs (ns.map PyData.int) → vs = ns.map V.int
  | [], _, h => by cases h; rfl
  | n :: ns, _, h => by
    cases h with
    | cons a b =>
      rw [dp_int a, dpAll_ints' ns _ b]
      rfl
theorem dp_dl {a : Addr} {ns : List Int} (h : SqL K H a (ns.map V.int)) : Dp K H (.ref a) (dl ns) := .lst h (dpAll_ints ns)
theorem dp_lst {a : Addr} {ns : List Int} (h : H a = some (.lst (ns.map V.int))) : Dp K H (.ref a) (dl ns) := dp_dl (sq_of h)
theorem dl_dp {ns : List Int} (h : Dp K H v (dl ns)) : ∃ a, v = .ref a ∧ SqL K H a (ns.map V.int) := by
  unfold dl at h
  cases h with
  | lst a b =>
    rw [dpAll_ints' ns _ b] at a
    exact ⟨_, rfl, a⟩
theorem dpAll_get {vs : List V} {ds : List PyData} (h : DpAll K H vs ds) : ∀ {i : Nat} {d : PyData}, ds[i]? = some d → ∃ v, vs[i]? = some v ∧ Dp K H v d := by
  induction ds generalizing vs with
  | nil => intro i d e; simp at e
  | cons d0 ds ih =>
    intro i d e
    cases h with
    | cons a b =>
      cases i with
      | zero =>
        have e' : d0 = d := Option.some.inj e
        exact ⟨_, rfl, e' ▸ a⟩
      | succ i => exact ih b (i := i) e
theorem dpAll_len {vs : List V} {ds : List PyData} (h : DpAll K H vs ds) : vs.length = ds.length := by
  induction ds generalizing vs with
  | nil => cases h; rfl
  | cons d0 ds ih =>
    cases h with
    | cons a b => rw [List.length_cons, List.length_cons, ih b]
theorem args1 {vs : List V} {a : PyData} (h : DpAll K H vs [a]) : ∃ x, vs = [x] ∧ Dp K H x a := by
  cases h with
  | cons h1 h2 => cases h2; exact ⟨_, rfl, h1⟩
theorem args2 {vs : List V} {a b : PyData} (h : DpAll K H vs [a, b]) : ∃ x y, vs = [x, y] ∧ Dp K H x a ∧ Dp K H y b := by
  cases h with
  | cons h1 h2 =>
    obtain ⟨y, rfl, h3⟩ := args1 h2
    exact ⟨_, _, rfl, h1, h3⟩
theorem args3 {vs : List V} {a b c : PyData} (h : DpAll K H vs [a, b, c]) : ∃ x y z, vs = [x, y, z] ∧ Dp K H x a ∧ Dp K H y b ∧ Dp K H z c := by
  cases h with
  | cons h1 h2 =>
    obtain ⟨y, z, rfl, h3⟩ := args2 h2
    exact ⟨_, _, _, rfl, h1, h3⟩
theorem args4 {vs : List V} {a b c d : PyData} (h : DpAll K H vs [a, b, c, d]) : ∃ x y z w, vs = [x, y, z, w] ∧ Dp K H x a ∧ Dp K H y b ∧ Dp K H z c ∧ Dp K H w d := by
  cases h with
  | cons h1 h2 =>
    obtain ⟨y, z, w, rfl, h3⟩ := args3 h2
    exact ⟨_, _, _, _, rfl, h1, h3⟩
theorem args5 {vs : List V} {a b c d e : PyData} (h : DpAll K H vs [a, b, c, d, e]) : ∃ x y z w u, vs = [x, y, z, w, u] ∧ Dp K H x a ∧ Dp K H y b ∧ Dp K H z c ∧ Dp K H w d ∧ Dp K H u e := by
  cases h with
  | cons h1 h2 =>
    obtain ⟨y, z, w, u, rfl, h3⟩ := args4 h2
    exact ⟨_, _, _, _, _, rfl, h1, h3⟩

/-! ### promises: a scalar, a new list of ints -/
def spF (K : PySem.W.Frag) (F : List PyData → V → Prop) : Sp := fun vs H Q _ => ∃ ds v, DpAll K H vs ds ∧ F ds v ∧ ∀ H', Ex H H' → Q v H'
def spG (K : PySem.W.Frag) (G : List PyData → List Int → Prop) : Sp := fun vs H Q _ => ∃ ds ns, DpAll K H vs ds ∧ G ds ns ∧ ∀ p H', H p = none → Ex H H' → H' p = some (.lst (ns.map V.int)) → Q (.ref p) H'

/-- a new list of ints of which P is known -/
def spR (K : PySem.W.Frag) (R : List PyData → (List Int → Prop) → Prop) : Sp := fun vs H Q _ => ∃ ds Pr, DpAll K H vs ds ∧ R ds Pr ∧ ∀ ns f H', Pr ns → H f = none → Ex H H' → H' f = some (.lst (ns.map V.int)) → Q (.ref f) H'
/-! ### what evaluates to what, as data -/
def EvD (K : PySem.W.Frag) (te : TE) (σ : L2.St) (H : Hp) (d : PyData) : Prop := ∀ H1, Ex H H1 → ∀ Q : VK, (∀ v H2, Ex H1 H2 → Dp K H2 v d → Q v H2) → te σ H1 Q
/-- a tracked list -/
def EvX (te : TE) (σ : L2.St) (H : Hp) (xs : List V) : Prop := ∀ H1, Ex H H1 → ∀ Q : VK, (∀ a H2, Ex H1 H2 → H2 a = some (.lst xs) → Q (.ref a) H2) → te σ H1 Q
def EvDA (K : PySem.W.Frag) (ta : TA) (σ : L2.St) (H : Hp) (ds : List PyData) : Prop := ∀ H1, Ex H H1 → ∀ Q : List V → Hp → Prop, (∀ vs H2, Ex H1 H2 → DpAll K H2 vs ds → Q vs H2) → ta σ H1 Q
theorem evd_i {i : Int} (h : Ev te σ H (.int i)) : EvD K te σ H (.int i) := fun H1 e Q q => h H1 e Q fun H2 e2 => q _ H2 e2 (.int i)
theorem evd_b {i : Bool} (h : Ev te σ H (.bl i)) : EvD K te σ H (.bool i) := fun H1 e Q q => h H1 e Q fun H2 e2 => q _ H2 e2 (.bl i)
theorem evd_s {i : PySem.Str} (h : Ev te σ H (.str i)) : EvD K te σ H (.str i) := fun H1 e Q q => h H1 e Q fun H2 e2 => q _ H2 e2 (.str i)
theorem evd_v (h : Ev te σ H v) (hd : Dp K H v d) : EvD K te σ H d := fun H1 e Q q => h H1 e Q fun H2 e2 => q _ H2 e2 (dpx (e.trans e2) hd)
theorem evd_l {ns : List Int} (h : EvL te σ H (ns.map V.int)) : EvD K te σ H (dl ns) := fun H1 e Q q => h H1 e Q fun p H2 _ e2 h2 => q _ H2 e2 (dp_lst h2)
theorem evx_l {xs : List V} (h : EvL te σ H xs) : EvX te σ H xs := fun H1 e Q q => h H1 e Q fun p H2 _ e2 h2 => q _ H2 e2 h2
theorem evx_v {a : Addr} {xs : List V} (h : Ev te σ H (.ref a)) (ha : H a = some (.lst xs)) : EvX te σ H xs := fun H1 e Q q => h H1 e Q fun H2 e2 => q _ H2 e2 ((e.trans e2) _ _ ha)
theorem evd_nil : EvDA K tNil σ H [] := fun H1 _ Q q => q _ H1 (Ex.refl H1) .nil
theorem evd_cons {tr : TA} {ds : List PyData} (h : EvD K ta σ H d) (hr : EvDA K tr σ H ds) : EvDA K (tCons ta tr) σ H (d :: ds) := fun H1 e Q q =>
  h H1 e _ fun v H2 e2 hv => hr H2 (e.trans e2) _ fun vs H3 e3 hvs => q _ H3 (e2.trans e3) (.cons (dpx e3 hv) hvs)
theorem ev_cd {F : List PyData → V → Prop} {E : XK} {ta : TA} {ds : List PyData} (h : EvDA K ta σ H ds) (hF : F ds z) : Ev (tCall (spF K F) [] E ta) σ H z := fun H1 e Q q =>
  h H1 e _ fun vs H2 e2 hv => ⟨ds, z, by rw [List.append_nil]; exact hv, hF, fun H3 e3 => q H3 (e2.trans e3)⟩
theorem el_cd {G : List PyData → List Int → Prop} {E : XK} {ta : TA} {ds : List PyData} {ns : List Int} (h : EvDA K ta σ H ds) (hG : G ds ns) : EvL (tCall (spG K G) [] E ta) σ H (ns.map V.int) := fun H1 e Q q =>
  h H1 e _ fun vs H2 e2 hv => ⟨ds, ns, by rw [List.append_nil]; exact hv, hG, fun p H3 hp e3 h3 => q p H3 (fresh_back e2 hp) (e2.trans e3) h3⟩
theorem atI_gi {ns : List Int} {i : Int} (h0 : 0 ≤ i) (h1 : i < ns.length) : atI (ns.map V.int) i = some (.int (gi ns i)) := by
  obtain ⟨j, rfl⟩ : ∃ j : Nat, i = (j : Int) := ⟨i.toNat, (Int.toNat_of_nonneg h0).symm⟩
  have hj : j < ns.length := by omega
  refine atI_nat ?_
  unfold gi
  rw [Int.toNat_natCast, List.getElem?_map, List.getElem?_eq_getElem hj, List.getD_eq_getElem?_getD, List.getElem?_eq_getElem hj]
  rfl
/-- xs[i], xs any list of ints -/
theorem ev_ix {ns : List Int} {i : Int} (ha : EvD K ta σ H (dl ns)) (hb : Ev tb σ H (.int i)) (h0 : 0 ≤ i) (h1 : i < ns.length) : Ev (tOp (rIxL K) ta tb) σ H (.int (gi ns i)) := fun H1 e Q q =>
  ha H1 e _ fun v H2 e2 hv => by
    obtain ⟨a, rfl, ha'⟩ := dl_dp hv
    exact hb H2 (e.trans e2) _ fun H3 e3 => ⟨a, _, i, _, rfl, rfl, ex_l e3 ha', atI_gi h0 h1, q H3 (e2.trans e3)⟩
/-- xs[i], xs a list of data -/
theorem ed_ix {ds : List PyData} {i : Int} (ha : EvD K ta σ H (.list ds)) (hb : Ev tb σ H (.int i)) (h0 : 0 ≤ i) (h : ds[i.toNat]? = some d) : EvD K (tOp (rIxL K) ta tb) σ H d := fun H1 e Q q =>
  ha H1 e _ fun v H2 e2 hv => by
    cases hv with
    | lst a b =>
      obtain ⟨v, h1, h2⟩ := dpAll_get b h
      exact hb H2 (e.trans e2) _ fun H3 e3 => ⟨_, _, _, v, rfl, rfl, ex_l e3 a, at_of (j := i.toNat) (by omega) h1, q v H3 (e2.trans e3) (dpx e3 h2)⟩
theorem ed_tix {ds : List PyData} {i : Int} (ha : EvD K ta σ H (.tuple ds)) (hb : Ev tb σ H (.int i)) (h0 : 0 ≤ i) (h : ds[i.toNat]? = some d) : EvD K (tOp (rIxT K) ta tb) σ H d := fun H1 e Q q =>
  ha H1 e _ fun v H2 e2 hv => by
    cases hv with
    | tup a b =>
      obtain ⟨v, h1, h2⟩ := dpAll_get b h
      exact hb H2 (e.trans e2) _ fun H3 e3 => ⟨_, _, _, v, rfl, rfl, ex_t e3 a, at_of (j := i.toNat) (by omega) h1, q v H3 (e2.trans e3) (dpx e3 h2)⟩
theorem ev_lenD {ns : List Int} (ha : EvD K ta σ H (dl ns)) : Ev (tCB (rLenS K) (tCons ta tNil)) σ H (.int (ns.length : Int)) := fun H1 e Q q =>
  ha H1 e _ fun v H2 e2 hv => by
    obtain ⟨a, rfl, ha'⟩ := dl_dp hv
    refine ⟨a, _, rfl, .inl ha', ?_⟩
    rw [List.length_map]
    exact q H2 e2
theorem ev_lenDD {ds : List PyData} (ha : EvD K ta σ H (.list ds)) : Ev (tCB (rLenS K) (tCons ta tNil)) σ H (.int (ds.length : Int)) := fun H1 e Q q =>
  ha H1 e _ fun v H2 e2 hv => by
    cases hv with
    | lst a b =>
      refine ⟨_, _, rfl, .inl a, ?_⟩
      rw [dpAll_len b]
      exact q H2 e2
/-- list(xs) -/
theorem el_listD {ns : List Int} (ha : EvD K ta σ H (dl ns)) : EvL (tCB (rListS K) (tCons ta tNil)) σ H (ns.map V.int) := fun H1 e Q q =>
  ha H1 e _ fun v H2 e2 hv => by
    obtain ⟨a, rfl, ha'⟩ := dl_dp hv
    exact ⟨a, _, rfl, .inl ha', fun l hl => q l _ (fresh_back e2 hl) (e2.trans (Ex.new hl)) upd_same⟩
/-- slices -/
def cutI (ns : List Int) (lo hi : Option Int) : List Int := (ns.drop (HT.sIx ns.length 0 lo)).take (HT.sIx ns.length ns.length hi - HT.sIx ns.length 0 lo)
theorem cutV_ints (ns : List Int) (lo hi : Option Int) : cutV (ns.map V.int) lo hi = (cutI ns lo hi).map V.int := by
  unfold cutV cutI
  rw [List.length_map, List.map_take, List.map_drop]
theorem cut_to {ns : List Int} {n : Int} {j : Nat} (e : n = (j : Int)) (h : j ≤ ns.length) : cutI ns none (some n) = ns.take j := by
  subst e
  unfold cutI
  rw [HT.sIx_nat, HT.sIx_none, Nat.min_eq_left h]
  simp
theorem cut_from {ns : List Int} {n : Int} {j : Nat} (e : n = (j : Int)) (h : j ≤ ns.length) : cutI ns (some n) none = ns.drop j := by
  subst e
  unfold cutI
  rw [HT.sIx_nat, HT.sIx_none, Nat.min_eq_left h, List.take_of_length_le]
  rw [List.length_drop]
  exact Nat.le_refl _
theorem el_slD {tl th : TO} {ns : List Int} {lo hi : Option Int} (h : EvD K te σ H (dl ns)) (h1 : EvO tl σ H lo) (h2 : EvO th σ H hi) : EvL (tSl (rSlL K) te tl th) σ H ((cutI ns lo hi).map V.int) := fun H1 e Q q =>
  h H1 e _ fun v H2 e2 hv => by
    obtain ⟨a, rfl, ha'⟩ := dl_dp hv
    exact h1 H2 (e.trans e2) _ fun H3 e3 => h2 H3 ((e.trans e2).trans e3) _ fun H4 e4 =>
      ⟨a, _, rfl, ex_l (e3.trans e4) ha', fun p hp => q p _ (fresh_back ((e2.trans e3).trans e4) hp) (((e2.trans e3).trans e4).trans (Ex.new hp)) (by rw [cutV_ints]; exact upd_same)⟩
/-- xs[:n], xs[n:] -/
theorem el_to {ns : List Int} {n : Int} (h : EvD K te σ H (dl ns)) (h1 : Ev tb σ H (.int n)) (h0 : 0 ≤ n) (hl : n ≤ ns.length) : EvL (tSl (rSlL K) te tNoPart (tPart tb)) σ H ((ns.take n.toNat).map V.int) := by
  rw [← cut_to (j := n.toNat) (n := n) (by omega) (by omega)]
  exact el_slD h eo_none (eo_some h1)
theorem el_from {ns : List Int} {n : Int} (h : EvD K te σ H (dl ns)) (h1 : Ev tb σ H (.int n)) (h0 : 0 ≤ n) (hl : n ≤ ns.length) : EvL (tSl (rSlL K) te (tPart tb) tNoPart) σ H ((ns.drop n.toNat).map V.int) := by
  rw [← cut_from (j := n.toNat) (n := n) (by omega) (by omega)]
  exact el_slD h (eo_some h1) eo_none
/-- xs + ys -/
theorem el_catX {xs ys : List V} (ha : EvX ta σ H xs) (hb : EvX tb σ H ys) (hl : xs.length + ys.length ≤ 100000) : EvL (tOp rCat ta tb) σ H (xs ++ ys) := fun H1 e Q q =>
  ha H1 e _ fun a H2 e2 h2 => hb H2 (e.trans e2) _ fun b H3 e3 h3 => ⟨a, b, xs, ys, rfl, rfl, e3 _ _ h2, h3, sz_of hl, fun p hp => q p _ (fresh_back (e2.trans e3) hp) ((e2.trans e3).trans (Ex.new hp)) upd_same⟩
theorem el_cat {xs ys : List Int} (ha : EvX ta σ H (xs.map V.int)) (hb : EvX tb σ H (ys.map V.int)) (hl : xs.length + ys.length ≤ 100000) : EvL (tOp rCat ta tb) σ H ((xs ++ ys).map V.int) := by
  rw [List.map_append]
  exact el_catX ha hb (by rw [List.length_map, List.length_map]; exact hl)
/-- [e] -/
theorem el_one {i : Int} (h : Ev te σ H (.int i)) : EvL (tLst (tCons te tNil)) σ H (([i] : List Int).map V.int) := el_lst (ea_cons h ea_nil) (by show 1 ≤ 100000; decide)
theorem el_nil : EvL (tLst tNil) σ H (([] : List Int).map V.int) := el_lst ea_nil (Nat.zero_le _)
/-- a list of written ints -/
theorem el_ints {ta : TA} {ns : List Int} (h : EvA ta σ H (ns.map V.int)) (hl : ns.length ≤ 100000) : EvL (tLst ta) σ H (ns.map V.int) := el_lst h (by rw [List.length_map]; exact hl)
/-- a list of data -/
theorem ed_lst {ta : TA} {ds : List PyData} (h : EvDA K ta σ H ds) (hl : ds.length ≤ 100000) : EvD K (tLst ta) σ H (.list ds) := fun H1 e Q q =>
  h H1 e _ fun vs H2 e2 hv => ⟨by rw [dpAll_len hv]; exact sz_of hl, fun p hp => q _ _ (e2.trans (Ex.new hp)) (.lst (sq_of upd_same) (dpAll_ex (Ex.new hp) _ _ hv))⟩
theorem ed_tup {ta : TA} {ds : List PyData} (h : EvDA K ta σ H ds) (hl : ds.length ≤ 100000) : EvD K (tTup ta) σ H (.tuple ds) := fun H1 e Q q =>
  h H1 e _ fun vs H2 e2 hv => ⟨by rw [dpAll_len hv]; exact sz_of hl, fun p hp => q _ _ (e2.trans (Ex.new hp)) (.tup (st_of upd_same) (dpAll_ex (Ex.new hp) _ _ hv))⟩

theorem dec_int (i j : Int) : decide (V.int i = V.int j) = decide (i = j) := by
  by_cases h : i = j
  · subst h
    simp
  · have h2 : ¬ V.int i = V.int j := fun q => h (V.int.inj q)
    rw [decide_eq_false h, decide_eq_false h2]
theorem dec_bool (i j : Bool) : decide (V.bl i = V.bl j) = decide (i = j) := by
  by_cases h : i = j
  · subst h
    simp
  · have h2 : ¬ V.bl i = V.bl j := fun q => h (V.bl.inj q)
    rw [decide_eq_false h, decide_eq_false h2]
theorem dec_str (i j : PySem.Str) : decide (V.str i = V.str j) = decide (i = j) := by
  by_cases h : i = j
  · subst h
    simp
  · have h2 : ¬ V.str i = V.str j := fun q => h (V.str.inj q)
    rw [decide_eq_false h, decide_eq_false h2]
theorem rv_eqI {i j : Int} : RV rEq (.int i) (.int j) H (.bl (decide (i = j))) := by
  rw [← dec_int]
  exact rv_eq rfl
theorem rv_neI {i j : Int} : RV rNe (.int i) (.int j) H (.bl (!decide (i = j))) := by
  rw [← dec_int]
  exact rv_ne rfl
theorem rv_eqB {i j : Bool} : RV rEq (.bl i) (.bl j) H (.bl (decide (i = j))) := by
  rw [← dec_bool]
  exact rv_eq rfl
theorem rv_neB {i j : Bool} : RV rNe (.bl i) (.bl j) H (.bl (!decide (i = j))) := by
  rw [← dec_bool]
  exact rv_ne rfl
theorem rv_eqS {i j : PySem.Str} : RV rEq (.str i) (.str j) H (.bl (decide (i = j))) := by
  rw [← dec_str]
  exact rv_eq rfl
theorem rv_neS {i j : PySem.Str} : RV rNe (.str i) (.str j) H (.bl (!decide (i = j))) := by
  rw [← dec_str]
  exact rv_ne rfl
theorem cl_len {X : Cx} {K : PySem.W.Frag} (h : X.K = K) : CallR X (.builtin "len") (rLenS K) := h ▸ call_len_seq
theorem cl_list {X : Cx} {K : PySem.W.Frag} (h : X.K = K) : CallR X (.type "list") (rListS K) := h ▸ call_list_of
theorem cl_sum {X : Cx} {K : PySem.W.Frag} (h : X.K = K) (hc : X.calm = true) : CallR X (.builtin "sum") (rSum K) := h ▸ cr_sum hc
theorem cl_all {X : Cx} {K : PySem.W.Frag} (h : X.K = K) (hc : X.calm = true) : CallR X (.builtin "all") (rAll K) := h ▸ cr_all hc
theorem cl_isi {X : Cx} {K : PySem.W.Frag} (h : X.K = K) : CallR X (.builtin "isinstance") (rIsi K) := h ▸ call_isi
theorem ixL {X : Cx} {K : PySem.W.Frag} (h : X.K = K) : IxR X (rIxL K) := h ▸ ix_list
theorem ixT {X : Cx} {K : PySem.W.Frag} (h : X.K = K) : IxR X (rIxT K) := h ▸ ix_tup
theorem slL {X : Cx} {K : PySem.W.Frag} (h : X.K = K) : SlR X (rSlL K) := h ▸ sl_list
theorem opEqD {X : Cx} {K : PySem.W.Frag} (h : X.K = K) (hu : X.A.units + 64 < cLine) : OpR X (compareOp .Eq) (rEqD K) := h ▸ op_eqD hu
theorem opNeD {X : Cx} {K : PySem.W.Frag} (h : X.K = K) (hu : X.A.units + 64 < cLine) : OpR X (compareOp .NotEq) (rNeD K) := h ▸ op_neD hu
theorem opIn {X : Cx} {K : PySem.W.Frag} (h : X.K = K) : OpR X (compareOp .In) (rIn K false) := h ▸ op_in_seq
/-- sums, all, min, max -/
theorem ev_sumD {ns : List Int} (ha : EvD K ta σ H (dl ns)) : Ev (tCB (rSum K) (tCons ta tNil)) σ H (.int ns.sum) := fun H1 e Q q =>
  ha H1 e _ fun v H2 e2 hv => by
    obtain ⟨a, rfl, ha'⟩ := dl_dp hv
    exact ⟨a, ns, rfl, ha', q H2 e2⟩
theorem ev_allN {bs : List Bool} (ha : EvL ta σ H (bs.map V.bl)) : Ev (tCB (rAll K) (tCons ta tNil)) σ H (.bl (bs.all id)) := fun H1 e Q q =>
  ha H1 e _ fun p H2 _ e2 h2 => ⟨p, bs, rfl, sq_of h2, q H2 e2⟩
def rMin2 : List V → Hp → VK → Prop := fun xs H Q => ∃ i j, xs = [.int i, .int j] ∧ Q (.int (if j < i then j else i)) H
theorem cl_max2 {X : Cx} (hc : X.calm = true) : CallR X (.builtin "max") rMax2 := call_max2 hc
theorem cl_min2 {X : Cx} (hc : X.calm = true) : CallR X (.builtin "min") rMin2 := call_min2 hc
theorem ev_min2 {i j : Int} (ha : Ev ta σ H (.int i)) (hb : Ev tb σ H (.int j)) : Ev (tCB rMin2 (tCons ta (tCons tb tNil))) σ H (.int (if j < i then j else i)) := fun H1 e Q q =>
  ha H1 e _ fun H2 e2 => hb H2 (e.trans e2) _ fun H3 e3 => ⟨i, j, rfl, q H3 (e2.trans e3)⟩
/-- int(True), int(n) -/
def rInt1 : List V → Hp → VK → Prop := fun xs H Q => (∃ i, xs = [.int i] ∧ Q (.int i) H) ∨ ∃ k, xs = [.bl k] ∧ Q (.int (if k then 1 else 0)) H
theorem cl_int1 {X : Cx} : CallR X (.type "int") rInt1 := call_int1
theorem ev_intb {b : Bool} (ha : Ev ta σ H (.bl b)) : Ev (tCB rInt1 (tCons ta tNil)) σ H (.int (if b then 1 else 0)) := fun H1 e Q q =>
  ha H1 e _ fun H2 e2 => Or.inr ⟨b, rfl, q H2 e2⟩
/-- a < b < c on ints -/
theorem ev_chainI {g g' : Int → Int → Bool} {i j k : Int} (ha : Ev ta σ H (.int i)) (hb : Ev tb σ H (.int j)) (hc : Ev tc σ H (.int k)) :
    Ev (tChain (rI0 fun i j => .bl (g i j)) (rI0 fun i j => .bl (g' i j)) ta tb tc) σ H (.bl (g i j && g' j k)) := fun H1 e Q q =>
  ha H1 e _ fun H2 e2 => hb H2 (e.trans e2) _ fun H3 e3 => ⟨i, j, rfl, rfl, g i j, rfl, by
    cases hg : g i j with
    | true =>
      show tc σ H3 _
      refine hc H3 ((e.trans e2).trans e3) _ fun H4 e4 => ⟨j, k, rfl, rfl, ?_⟩
      rw [hg] at q
      exact q H4 ((e2.trans e3).trans e4)
    | false =>
      show Q (.bl false) H3
      rw [hg] at q
      exact q H3 (e2.trans e3)⟩
/-- == of data -/
theorem ev_eqD {e : PyData} (ha : EvD K ta σ H d) (hb : EvD K tb σ H e) (sd : SeqAt.shaped d = true) (se : SeqAt.shaped e = true) : Ev (tOp (rEqD K) ta tb) σ H (.bl (PyData.eqv d e)) := fun H1 e1 Q q =>
  ha H1 e1 _ fun v H2 e2 hv => hb H2 (e1.trans e2) _ fun u H3 e3 hu => ⟨d, e, dpx e3 hv, hu, sd, se, q H3 (e2.trans e3)⟩
theorem ev_neD {e : PyData} (ha : EvD K ta σ H d) (hb : EvD K tb σ H e) (sd : SeqAt.shaped d = true) (se : SeqAt.shaped e = true) : Ev (tOp (rNeD K) ta tb) σ H (.bl (!PyData.eqv d e)) := fun H1 e1 Q q =>
  ha H1 e1 _ fun v H2 e2 hv => hb H2 (e1.trans e2) _ fun u H3 e3 hu => ⟨d, e, dpx e3 hv, hu, sd, se, q H3 (e2.trans e3)⟩
theorem can_ints : ∀ ns : List Int, PyData.canLayAll0 (ns.map PyData.int) = true
  | [] => rfl
  | n :: ns => by
    show (PyData.canLay0 (.int n) && PyData.canLayAll0 (ns.map PyData.int)) = true
    rw [can_ints ns] <;> rfl
theorem dep_ints : ∀ ns : List Int, PyData.depthAll (ns.map PyData.int) = 0
  | [] => rfl
  | n :: ns => by
    show max (PyData.depth (.int n)) (PyData.depthAll (ns.map PyData.int)) = 0
    rw [dep_ints ns] <;> rfl
theorem can_dl (ns : List Int) : PyData.canLay0 (dl ns) = true := can_ints ns
theorem dep_dl (ns : List Int) : PyData.depth (dl ns) = 1 := by
  show PyData.depthAll (ns.map PyData.int) + 1 = 1
  rw [dep_ints]
theorem shaped_dl (ns : List Int) : SeqAt.shaped (dl ns) = true := by
  unfold SeqAt.shaped
  rw [can_dl, dep_dl] <;> rfl
theorem shaped_2 (ns ms : List Int) : SeqAt.shaped (.list [dl ns, dl ms]) = true := by
  have h1 : PyData.canLay0 (.list [dl ns, dl ms]) = true := by
    show (PyData.canLay0 (dl ns) && (PyData.canLay0 (dl ms) && true)) = true
    rw [can_dl, can_dl] <;> rfl
  have h2 : PyData.depth (.list [dl ns, dl ms]) = 2 := by
    show max (PyData.depth (dl ns)) (max (PyData.depth (dl ms)) 0) + 1 = 2
    rw [dep_dl, dep_dl] <;> rfl
  unfold SeqAt.shaped
  rw [h1, h2] <;> rfl
theorem eqvAll_ints : ∀ ns ms : List Int, PyData.eqvAll (ns.map PyData.int) (ms.map PyData.int) = decide (ns = ms)
  | [], [] => rfl
  | [], _ :: _ => rfl
  | _ :: _, [] => rfl
  | n :: ns, m :: ms => by
    show (PyData.eqv (.int n) (.int m) && PyData.eqvAll (ns.map PyData.int) (ms.map PyData.int)) = _
    rw [eqvAll_ints ns ms]
    show ((n == m) && decide (ns = ms)) = decide (n :: ns = m :: ms)
    by_cases h1 : n = m
    · subst h1
      by_cases h2 : ns = ms
      · subst h2
        simp
      · simp [h2]
    · simp [h1]
theorem eqv_dl (ns ms : List Int) : PyData.eqv (dl ns) (dl ms) = decide (ns = ms) := eqvAll_ints ns ms
theorem eqv_22 (ns ms : List Int) : PyData.eqv (.list [dl ns, dl ms]) (.list [dl ns, dl ms]) = true := by
  show (PyData.eqv (dl ns) (dl ns) && (PyData.eqv (dl ms) (dl ms) && true)) = true
  rw [eqv_dl, eqv_dl]
  simp

/-! ### comprehensions -/
theorem given_all (n : Nat) (v : Nat → V) : given n (fun _ => true) v = (List.range n).map v := by
  unfold given
  rw [List.filter_eq_self.mpr (fun _ _ => rfl)]
theorem et_yes : EvT tYes σ H true := fun H1 _ Q q => q H1 (Ex.refl H1)
/-- [e for k in range(n)] of ints -/
theorem el_r1 {ta : TA} {j : Nat} {vs : List Nat} {n : Int} (v : Nat → Int) (h : EvA ta σ H [.int n]) (hn : 0 ≤ n ∧ n ≤ 40000) (hw : ∀ x, wipe ((wipe σ vs).set j (some x)) vs = wipe σ vs)
    (he : ∀ (i : Nat) H1, Ex H H1 → (i : Int) < n → Ev te ((wipe σ vs).set j (some (.int (i : Int)))) H1 (.int (v i))) : EvL (tLc (iRng1 ta) (gName j) tYes te vs) σ H (((List.range n.toNat).map v).map V.int) := by
  have q := el_lcR1 (te := te) (t := tYes) (σ := σ) (H := H) (j := j) (vs := vs) (n := n) (fun _ => true) (fun i => V.int (v i)) h hn hw (fun _ _ _ _ => et_yes) (fun i H1 e hi _ => he i H1 e hi)
  rw [given_all] at q
  rw [List.map_map]
  exact q
theorem el_lcR2 {ta : TA} {j : Nat} {vs : List Nat} {lo n : Int} (f : Nat → Bool) (v : Nat → V) (h : EvA ta σ H [.int lo, .int n]) (hn : 0 ≤ lo ∧ lo ≤ 40000 ∧ -40000 ≤ n ∧ n ≤ 40000) (hw : ∀ x, wipe ((wipe σ vs).set j (some x)) vs = wipe σ vs)
    (ht : ∀ (i : Nat) H1, Ex H H1 → lo + (i : Int) < n → EvT t ((wipe σ vs).set j (some (.int (lo + (i : Int))))) H1 (f i)) (he : ∀ (i : Nat) H1, Ex H H1 → lo + (i : Int) < n → f i = true → Ev te ((wipe σ vs).set j (some (.int (lo + (i : Int))))) H1 (v i)) :
    EvL (tLc (iRng2 ta) (gName j) t te vs) σ H (given (n - lo).toNat f v) := fun H0 e Q q => h H0 e _ fun H1 e1 => ⟨lo, n, rfl, ⟨by omega, by omega, by omega, by omega⟩, fun Dl hD =>
  lc_range (lo := lo) (n := (n - lo).toNat) (Cw H1 f v Dl) ⟨hD, Ex.new hD, upd_same⟩ (fun i H' hi p => ⟨hw _, cw_turn p (by omega) (ht i H1 (e.trans e1) (by omega)) (fun hf => he i H1 (e.trans e1) (by omega) hf)⟩)
    (fun H' p => q Dl H' (fresh_back e1 p.1) (e1.trans p.2.1) p.2.2)⟩
theorem el_r2 {ta : TA} {j : Nat} {vs : List Nat} {lo n : Int} (v : Nat → V) (h : EvA ta σ H [.int lo, .int n]) (hn : 0 ≤ lo ∧ lo ≤ 40000 ∧ -40000 ≤ n ∧ n ≤ 40000) (hw : ∀ x, wipe ((wipe σ vs).set j (some x)) vs = wipe σ vs)
    (he : ∀ (i : Nat) H1, Ex H H1 → lo + (i : Int) < n → Ev te ((wipe σ vs).set j (some (.int (lo + (i : Int))))) H1 (v i)) : EvL (tLc (iRng2 ta) (gName j) tYes te vs) σ H ((List.range (n - lo).toNat).map v) := by
  have q := el_lcR2 (te := te) (t := tYes) (σ := σ) (H := H) (j := j) (vs := vs) (lo := lo) (n := n) (fun _ => true) v h hn hw (fun _ _ _ _ => et_yes) (fun i H1 e hi _ => he i H1 e hi)
  rw [given_all] at q
  exact q
/-- [e for x in xs], xs of ints -/
theorem el_li {ns : List Int} {tl : TE} {j : Nat} {vs : List Nat} (v : Int → V) (h : EvD K tl σ H (dl ns)) (hz : ns.length ≤ 40000) (hw : ∀ x, wipe ((wipe σ vs).set j (some x)) vs = wipe σ vs)
    (he : ∀ (x : Int) H1, Ex H H1 → x ∈ ns → Ev te ((wipe σ vs).set j (some (.int x))) H1 (v x)) : EvL (tLc (iList K tl) (gName j) tYes te vs) σ H (ns.map v) := fun H0 e Q q => h H0 e _ fun w H1 e1 hv => by
  obtain ⟨a, rfl, ha⟩ := dl_dp hv
  refine ⟨a, rfl, ⟨_, ha⟩, fun Dl hD => ?_⟩
  refine lc_list (K := K) (a := a) (xs := ns.map V.int) (Cw H1 (fun _ => true) (fun i => v (ns.getD i 0)) Dl) ⟨hD, Ex.new hD, upd_same⟩ (fun i H' _ p => ex_l p.2.1 ha) (fun i x H' hi p => ⟨hw x, ?_⟩) (fun H' p => ?_)
  · have hl : i < ns.length := by
      have := (List.getElem?_eq_some_iff.mp hi).1
      rw [List.length_map] at this
      exact this
    have ex : x = .int ns[i] := by
      rw [List.getElem?_map, List.getElem?_eq_getElem hl] at hi
      exact (Option.some.inj hi).symm
    subst ex
    have eg : ns.getD i 0 = ns[i] := by rw [List.getD_eq_getElem?_getD, List.getElem?_eq_getElem hl]; rfl
    refine cw_turn p (by omega) (fun H2 _ Q q => q H2 (Ex.refl H2)) (fun _ => ?_)
    show Ev te _ H1 (v (ns.getD i 0))
    rw [eg]
    exact (he ns[i] H1 (e.trans e1) (List.getElem_mem hl))
  · refine q Dl H' (fresh_back e1 p.1) (e1.trans p.2.1) ?_
    have h3 := p.2.2
    rw [given_all, List.length_map] at h3
    have e4 : (List.range ns.length).map (fun i => v (ns.getD i 0)) = ns.map v := by
      refine List.ext_getElem (by simp) fun i h1 h2 => ?_
      have h5 : i < ns.length := by simpa using h2
      rw [List.getElem_map, List.getElem_map, List.getElem_range, List.getD_eq_getElem?_getD, List.getElem?_eq_getElem h5]
      rfl
    rw [e4] at h3
    exact h3
end
/-! ### statements -/
section
variable {K : PySem.W.Frag} {σ : L2.St} {H H' : Hp} {ta tb te tx : TE} {t u : TT} {x y z v : V} {D : Ends} {tu tw tz : TS} {g : TG}
theorem q_asgD {i : Nat} {d : PyData} (h : EvD K te σ H d) (k : ∀ v H1, Ex H H1 → Dp K H1 v d → tz D (σ.set i (some v)) H1) : tSeq (tAsg te (gName i)) tz D σ H := h H (Ex.refl H) _ fun v H1 e hv => k v H1 e hv
theorem s_asgD {i : Nat} {d : PyData} (h : EvD K te σ H d) (k : ∀ v H1, Ex H H1 → Dp K H1 v d → D.nx (σ.set i (some v)) H1) : tAsg te (gName i) D σ H := h H (Ex.refl H) _ fun v H1 e hv => k v H1 e hv
/-- x = f(..), f by any promise -/
theorem q_call {i : Nat} {sp : Sp} {E : XK} {ta : TA} {ds : List PyData} (h : EvDA K ta σ H ds) (k : ∀ vs H1, Ex H H1 → DpAll K H1 vs ds → sp vs H1 (fun v H2 => tz D (σ.set i (some v)) H2) E) : tSeq (tAsg (tCall sp [] E ta) (gName i)) tz D σ H :=
  h H (Ex.refl H) _ fun vs H1 e hv => by
    have q := k vs H1 e hv
    rw [List.append_nil]
    exact q
theorem s_asgR {i : Nat} {R : List PyData → (List Int → Prop) → Prop} {E : XK} {ta : TA} {ds : List PyData} {Pr : List Int → Prop} (h : EvDA K ta σ H ds) (hR : R ds Pr) (k : ∀ ns f H1, Pr ns → H f = none → Ex H H1 → H1 f = some (.lst (ns.map V.int)) → D.nx (σ.set i (some (.ref f))) H1) : tAsg (tCall (spR K R) [] E ta) (gName i) D σ H :=
  h H (Ex.refl H) _ fun vs H1 e hv => ⟨ds, Pr, by rw [List.append_nil]; exact hv, hR, fun ns f H2 hp hf e2 h2 => k ns f H2 hp (fresh_back e hf) (e.trans e2) h2⟩
theorem q_asgR {i : Nat} {R : List PyData → (List Int → Prop) → Prop} {E : XK} {ta : TA} {ds : List PyData} {Pr : List Int → Prop} (h : EvDA K ta σ H ds) (hR : R ds Pr) (k : ∀ ns f H1, Pr ns → H f = none → Ex H H1 → H1 f = some (.lst (ns.map V.int)) → tz D (σ.set i (some (.ref f))) H1) : tSeq (tAsg (tCall (spR K R) [] E ta) (gName i)) tz D σ H := s_asgR (D := { D with nx := tz D }) h hR k
theorem s_retR {R : List PyData → (List Int → Prop) → Prop} {E : XK} {ta : TA} {ds : List PyData} {Pr : List Int → Prop} (h : EvDA K ta σ H ds) (hR : R ds Pr) (k : ∀ ns f H1, Pr ns → H f = none → Ex H H1 → H1 f = some (.lst (ns.map V.int)) → D.rt (.ref f) H1) : tRet (tCall (spR K R) [] E ta) D σ H :=
  h H (Ex.refl H) _ fun vs H1 e hv => ⟨ds, Pr, by rw [List.append_nil]; exact hv, hR, fun ns f H2 hp hf e2 h2 => k ns f H2 hp (fresh_back e hf) (e.trans e2) h2⟩
/-- x = xs.pop() -/
theorem q_popI {i : Nat} {l : Addr} {ns : List Int} {y : Int} (hl : H l = some (.lst ((ns ++ [y]).map V.int))) (ha : Ev ta σ H (.ref l)) (k : ∀ H1, Ex H H1 → tz D (σ.set i (some (.int y))) (upd H1 l (.lst (ns.map V.int)))) : tSeq (tAsg (tBM0 K "list" rPop ta) (gName i)) tz D σ H :=
  ha H (Ex.refl H) _ fun H1 e1 => ⟨Or.inl ⟨rfl, _, sq_of (e1 l _ hl)⟩, l, _, .int y, rfl, rfl, e1 l _ hl, by rw [List.map_append, List.length_append]; simp, by
    have q := k H1 e1
    rw [List.map_append, List.map_singleton, List.dropLast_concat]
    exact q⟩
/-- xs[i] = e, i an int -/
theorem ixN_int {n : Nat} {i : Int} (h0 : 0 ≤ i) (h1 : i < n) : ixN n i = some i.toNat := by
  unfold ixN
  rw [if_pos h0, if_pos h1]
theorem s_setI {l : Addr} {ns : List Int} {i y : Int} (hl : H l = some (.lst (ns.map V.int))) (h : Ev te σ H (.int y)) (ho : Ev ta σ H (.ref l)) (hi : Ev tb σ H (.int i)) (h0 : 0 ≤ i) (h1 : i < ns.length) (k : ∀ H1, Ex H H1 → D.nx σ (upd H1 l (.lst ((ns.set i.toNat y).map V.int)))) :
    tAsg te (gSub ta tb rSetL) D σ H := h H (Ex.refl H) _ fun H1 e1 => ho H1 e1 _ fun H2 e2 => hi H2 (e1.trans e2) _ fun H3 e3 =>
  ⟨l, _, i, i.toNat, rfl, rfl, ((e1.trans e2).trans e3) l _ hl, ixN_int h0 (by rw [List.length_map]; exact h1), by rw [← List.map_set]; exact k H3 ((e1.trans e2).trans e3)⟩
theorem q_setI {l : Addr} {ns : List Int} {i y : Int} (hl : H l = some (.lst (ns.map V.int))) (h : Ev te σ H (.int y)) (ho : Ev ta σ H (.ref l)) (hi : Ev tb σ H (.int i)) (h0 : 0 ≤ i) (h1 : i < ns.length) (k : ∀ H1, Ex H H1 → tz D σ (upd H1 l (.lst ((ns.set i.toNat y).map V.int)))) :
    tSeq (tAsg te (gSub ta tb rSetL)) tz D σ H := s_setI (D := { D with nx := tz D }) hl h ho hi h0 h1 k
/-- xs.append(e) of an int -/
theorem s_appI {l : Addr} {ns : List Int} {i : Int} (hl : H l = some (.lst (ns.map V.int))) (ha : Ev ta σ H (.ref l)) (h : Ev te σ H (.int i)) (hz : ns.length < 100000) (k : ∀ H1, Ex H H1 → D.nx σ (upd H1 l (.lst ((ns ++ [i]).map V.int)))) :
    tDrop (tBM K "list" rAppend ta (tCons te tNil)) D σ H := s_app hl ha h (by rw [List.length_map]; exact hz) fun H1 e => by
  have q := k H1 e
  rw [List.map_append] at q
  exact q
theorem q_appI {l : Addr} {ns : List Int} {i : Int} (hl : H l = some (.lst (ns.map V.int))) (ha : Ev ta σ H (.ref l)) (h : Ev te σ H (.int i)) (hz : ns.length < 100000) (k : ∀ H1, Ex H H1 → tz D σ (upd H1 l (.lst ((ns ++ [i]).map V.int)))) :
    tSeq (tDrop (tBM K "list" rAppend ta (tCons te tNil))) tz D σ H := s_appI (D := { D with nx := tz D }) hl ha h hz k
end
/-! ### lists of data -/
section
variable {K : PySem.W.Frag} {σ : L2.St} {H H' : Hp} {ta tb tc te tx tl : TE} {t u : TT} {x y z v : V} {D : Ends} {tu tw tz : TS} {g : TG} {d : PyData} {ds es : List PyData}
/-- a tracked list of data; a new one -/
def EvXD (K : PySem.W.Frag) (te : TE) (σ : L2.St) (H : Hp) (ds : List PyData) : Prop := ∀ H1, Ex H H1 → ∀ Q : VK, (∀ a xs H2, Ex H1 H2 → H2 a = some (.lst xs) → DpAll K H2 xs ds → Q (.ref a) H2) → te σ H1 Q
def EvLD (K : PySem.W.Frag) (te : TE) (σ : L2.St) (H : Hp) (ds : List PyData) : Prop := ∀ H1, Ex H H1 → ∀ Q : VK, (∀ a xs H2, H1 a = none → Ex H1 H2 → H2 a = some (.lst xs) → DpAll K H2 xs ds → Q (.ref a) H2) → te σ H1 Q
theorem evLD_x (h : EvLD K te σ H ds) : EvXD K te σ H ds := fun H1 e Q q => h H1 e Q fun a xs H2 _ e2 h2 h3 => q a xs H2 e2 h2 h3
theorem evXD_d (h : EvXD K te σ H ds) : EvD K te σ H (.list ds) := fun H1 e Q q => h H1 e Q fun a xs H2 e2 h2 h3 => q _ H2 e2 (.lst (sq_of h2) h3)
theorem exd_v {a : Addr} {xs : List V} (h : Ev te σ H (.ref a)) (ha : H a = some (.lst xs)) (hd : DpAll K H xs ds) : EvXD K te σ H ds := fun H1 e Q q => h H1 e Q fun H2 e2 => q a xs H2 e2 ((e.trans e2) _ _ ha) (dpAll_ex (e.trans e2) _ _ hd)
theorem eld_lst {ta : TA} (h : EvDA K ta σ H ds) (hl : ds.length ≤ 100000) : EvLD K (tLst ta) σ H ds := fun H1 e Q q =>
  h H1 e _ fun vs H2 e2 hv => ⟨by rw [dpAll_len hv]; exact sz_of hl, fun p hp => q p vs _ (fresh_back e2 hp) (e2.trans (Ex.new hp)) upd_same (dpAll_ex (Ex.new hp) _ _ hv)⟩
theorem dpAll_app {xs ys : List V} : ∀ {ds es : List PyData}, DpAll K H xs ds → DpAll K H ys es → DpAll K H (xs ++ ys) (ds ++ es) := by
  intro ds
  induction ds generalizing xs with
  | nil =>
    intro es h h2
    cases h
    exact h2
  | cons d ds ih =>
    intro es h h2
    cases h with
    | cons a b => exact .cons a (ih b h2)
theorem eld_cat (ha : EvXD K ta σ H ds) (hb : EvXD K tb σ H es) (hl : ds.length + es.length ≤ 100000) : EvLD K (tOp rCat ta tb) σ H (ds ++ es) := fun H1 e Q q =>
  ha H1 e _ fun a xs H2 e2 h2 d2 => hb H2 (e.trans e2) _ fun b ys H3 e3 h3 d3 => ⟨a, b, xs, ys, rfl, rfl, e3 _ _ h2, h3, by rw [dpAll_len d2, dpAll_len d3]; exact sz_of hl, fun p hp =>
    q p _ _ (fresh_back (e2.trans e3) hp) ((e2.trans e3).trans (Ex.new hp)) upd_same (dpAll_app (dpAll_ex (e3.trans (Ex.new hp)) _ _ d2) (dpAll_ex (Ex.new hp) _ _ d3))⟩
/-- for x in a list of data that stays -/
theorem s_forD {j : Nat} (h : EvXD K tl σ H ds) (Pv : Hp → Nat → L2.St → Hp → Prop) (h0 : ∀ H1, Ex H H1 → Pv H1 0 σ H1) (hl : ∀ H1 i σ' H', Pv H1 i σ' H' → Ex H1 H')
    (hs : ∀ H1 (i : Nat) v d σ' H', Ex H H1 → ds[i]? = some d → Pv H1 i σ' H' → Dp K H' v d → tu { D with nx := Pv H1 (i + 1), ct := Pv H1 (i + 1), bk := D.nx } (σ'.set j (some v)) H') (hd : ∀ H1 σ' H', Ex H H1 → Pv H1 ds.length σ' H' → D.nx σ' H') : tFor (iList K tl) (gName j) tu D σ H :=
  h H (Ex.refl H) _ fun a xs H1 e h1 d1 => ⟨a, rfl, ⟨xs, sq_of h1⟩, for_list (Pv H1) (h0 H1 e) (fun i σ' H' _ p => ex_l (hl _ _ _ _ p) (sq_of h1)) (fun i x σ' H' hi p => by
    obtain ⟨d, hd2, hx⟩ : ∃ d, ds[i]? = some d ∧ Dp K H1 x d := by
      have hlt : i < ds.length := by rw [← dpAll_len d1]; exact (List.getElem?_eq_some_iff.mp hi).1
      obtain ⟨v, h2, h3⟩ := dpAll_get d1 (List.getElem?_eq_getElem hlt)
      rw [hi] at h2
      cases h2
      exact ⟨_, List.getElem?_eq_getElem hlt, h3⟩
    exact hs H1 i x d σ' H' e hd2 p (dpx (hl _ _ _ _ p) hx)) (fun σ' H' p => by rw [dpAll_len d1] at p; exact hd H1 σ' H' e p)⟩
theorem q_forD {j : Nat} (h : EvXD K tl σ H ds) (Pv : Hp → Nat → L2.St → Hp → Prop) (h0 : ∀ H1, Ex H H1 → Pv H1 0 σ H1) (hl : ∀ H1 i σ' H', Pv H1 i σ' H' → Ex H1 H')
    (hs : ∀ H1 (i : Nat) v d σ' H', Ex H H1 → ds[i]? = some d → Pv H1 i σ' H' → Dp K H' v d → tu { D with nx := Pv H1 (i + 1), ct := Pv H1 (i + 1), bk := tz D } (σ'.set j (some v)) H') (hd : ∀ H1 σ' H', Ex H H1 → Pv H1 ds.length σ' H' → tz D σ' H') : tSeq (tFor (iList K tl) (gName j) tu) tz D σ H :=
  s_forD (D := { D with nx := tz D }) h Pv h0 hl hs hd
/-- for x in a list of ints that stays -/
theorem s_forI {j : Nat} {ns : List Int} (h : EvD K tl σ H (dl ns)) (Pv : Hp → Nat → L2.St → Hp → Prop) (h0 : ∀ H1, Ex H H1 → Pv H1 0 σ H1) (hl : ∀ H1 i σ' H', Pv H1 i σ' H' → Ex H1 H')
    (hs : ∀ H1 (i : Nat) (x : Int) σ' H', Ex H H1 → ns[i]? = some x → Pv H1 i σ' H' → tu { D with nx := Pv H1 (i + 1), ct := Pv H1 (i + 1), bk := D.nx } (σ'.set j (some (.int x))) H') (hd : ∀ H1 σ' H', Ex H H1 → Pv H1 ns.length σ' H' → D.nx σ' H') : tFor (iList K tl) (gName j) tu D σ H :=
  h H (Ex.refl H) _ fun w H1 e hv => by
    obtain ⟨a, rfl, ha⟩ := dl_dp hv
    refine ⟨a, rfl, ⟨_, ha⟩, for_list (xs := ns.map V.int) (Pv H1) (h0 H1 e) (fun i σ' H' _ p => ex_l (hl _ _ _ _ p) ha) (fun i x σ' H' hi p => ?_) (fun σ' H' p => by rw [List.length_map] at p; exact hd H1 σ' H' e p)⟩
    rw [List.getElem?_map] at hi
    cases hx : ns[i]? with
    | none =>
      rw [hx] at hi
      cases hi
    | some z =>
      rw [hx] at hi
      cases hi
      exact hs H1 i z σ' H' e hx p
theorem q_forI {j : Nat} {ns : List Int} (h : EvD K tl σ H (dl ns)) (Pv : Hp → Nat → L2.St → Hp → Prop) (h0 : ∀ H1, Ex H H1 → Pv H1 0 σ H1) (hl : ∀ H1 i σ' H', Pv H1 i σ' H' → Ex H1 H')
    (hs : ∀ H1 (i : Nat) (x : Int) σ' H', Ex H H1 → ns[i]? = some x → Pv H1 i σ' H' → tu { D with nx := Pv H1 (i + 1), ct := Pv H1 (i + 1), bk := tz D } (σ'.set j (some (.int x))) H') (hd : ∀ H1 σ' H', Ex H H1 → Pv H1 ns.length σ' H' → tz D σ' H') : tSeq (tFor (iList K tl) (gName j) tu) tz D σ H :=
  s_forI (D := { D with nx := tz D }) h Pv h0 hl hs hd
/-- isinstance, built-in types -/
theorem dp_ty {ds : List PyData} (h : Dp K H v (.list ds)) : TyX K H v (.type "list") := by
  cases h with
  | lst a b =>
    rcases a with (a | ⟨o, a⟩) | ⟨o, its, n, a, c, _⟩
    · exact .base (.lst a)
    · exact .base (.frz a)
    · exact .kList a c
theorem ev_isi {a b : String} {r : Bool} (h : Ev te σ H x) (ty : ∀ H1, Ex H H1 → TyX K H1 x (.type a)) (hk : kitB a b = some r) : Ev (tCB (rIsi K) (tCons te (tCons (tC (.ty b)) tNil))) σ H (.bl r) := fun H1 e Q q =>
  h H1 e _ fun H2 e2 => ⟨x, .ty b, .type a, .type b, r, rfl, .ty b, ty H2 (e.trans e2), kit_ty hk, q H2 e2⟩
theorem ev_isiI {i : Int} {b : String} {r : Bool} (h : Ev te σ H (.int i)) (hk : kitB "int" b = some r) : Ev (tCB (rIsi K) (tCons te (tCons (tC (.ty b)) tNil))) σ H (.bl r) := ev_isi h (fun _ _ => .base (.int i)) hk
theorem ev_isiB {i : Bool} {b : String} {r : Bool} (h : Ev te σ H (.bl i)) (hk : kitB "bool" b = some r) : Ev (tCB (rIsi K) (tCons te (tCons (tC (.ty b)) tNil))) σ H (.bl r) := ev_isi h (fun _ _ => .base (.bl i)) hk
theorem ev_isiS {i : PySem.Str} {b : String} {r : Bool} (h : Ev te σ H (.str i)) (hk : kitB "str" b = some r) : Ev (tCB (rIsi K) (tCons te (tCons (tC (.ty b)) tNil))) σ H (.bl r) := ev_isi h (fun _ _ => .base (.str i)) hk
theorem ev_isiL {b : String} {r : Bool} (h : EvD K te σ H (.list ds)) (hk : kitB "list" b = some r) : Ev (tCB (rIsi K) (tCons te (tCons (tC (.ty b)) tNil))) σ H (.bl r) := fun H1 e Q q =>
  h H1 e _ fun x H2 e2 hx => ⟨x, .ty b, .type "list", .type b, r, rfl, .ty b, dp_ty hx, kit_ty hk, q H2 e2⟩
/-! ### a list of lists that grows -/
def LL (H : Hp) (r : Addr) (nss : List (List Int)) : Prop := ∃ as : List Addr, H r = some (.lst (as.map V.ref)) ∧ Paired (fun a ns => a ≠ r ∧ H a = some (.lst (ns.map V.int))) as nss
theorem LL.ex {r : Addr} {nss : List (List Int)} (h : LL H r nss) (e : Ex H H') : LL H' r nss := by
  obtain ⟨as, h1, h2⟩ := h
  exact ⟨as, e _ _ h1, Paired.mapP h2 fun a ns z => ⟨z.1, e _ _ z.2⟩⟩
theorem LL.len {r : Addr} {nss : List (List Int)} {as : List Addr} (h : Paired (fun a ns => a ≠ r ∧ H a = some (.lst (ns.map V.int))) as nss) : as.length = nss.length := Paired.length h
theorem ll_dp {r : Addr} : ∀ {as : List Addr} {nss : List (List Int)}, Paired (fun a (ns : List Int) => a ≠ r ∧ H a = some (.lst (ns.map V.int))) as nss → DpAll K H (as.map V.ref) (nss.map dl)
  | _, _, .nil => .nil
  | _, _, .cons h t => .cons (dp_lst h.2) (ll_dp t)
theorem exd_ll {r : Addr} {nss : List (List Int)} (h : Ev te σ H (.ref r)) (hl : LL H r nss) : EvXD K te σ H (nss.map dl) := by
  obtain ⟨as, h1, h2⟩ := hl
  exact exd_v h h1 (ll_dp h2)
theorem s_appLL {r : Addr} {nss : List (List Int)} {ns : List Int} (hl : LL H r nss) (hr : Ev ta σ H (.ref r)) (h : EvL te σ H (ns.map V.int)) (hz : nss.length < 100000)
    (k : ∀ H1, (∀ H0, Ex H0 H → H0 r = none → Ex H0 H1) → LL H1 r (nss ++ [ns]) → D.nx σ H1) : tDrop (tBM K "list" rAppend ta (tCons te tNil)) D σ H := by
  obtain ⟨as, h1, h2⟩ := hl
  refine s_appL h1 hr h (by rw [List.length_map, LL.len h2]; exact hz) fun p H1 hp e hp1 => k _ (fun H0 e0 hr0 => Ex.mut (e0.trans e) hr0) ⟨as ++ [p], ?_, Paired.snoc (Paired.mapP h2 fun a ms z => ⟨z.1, ?_⟩) ⟨?_, ?_⟩⟩
  · rw [upd_same, List.map_append] <;> rfl
  · rw [upd_ne z.1]
    exact e _ _ z.2
  · exact (ne_of_none h1 hp).symm
  · rw [upd_ne (ne_of_none h1 hp).symm]
    exact hp1
theorem q_appLL {r : Addr} {nss : List (List Int)} {ns : List Int} (hl : LL H r nss) (hr : Ev ta σ H (.ref r)) (h : EvL te σ H (ns.map V.int)) (hz : nss.length < 100000)
    (k : ∀ H1, (∀ H0, Ex H0 H → H0 r = none → Ex H0 H1) → LL H1 r (nss ++ [ns]) → tz D σ H1) : tSeq (tDrop (tBM K "list" rAppend ta (tCons te tNil))) tz D σ H := s_appLL (D := { D with nx := tz D }) hl hr h hz k
/-- r = [one list] -/
theorem q_asgLL1 {i : Nat} {ns : List Int} (h : EvL te σ H (ns.map V.int)) (k : ∀ r H1, H r = none → Ex H H1 → LL H1 r [ns] → tz D (σ.set i (some (.ref r))) H1) : tSeq (tAsg (tLst (tCons te tNil)) (gName i)) tz D σ H :=
  h H (Ex.refl H) _ fun p H1 hp e h1 => ⟨by show 1 ≤ sizeLine; decide, fun r hr => k r _ (fresh_back e hr) (e.trans (Ex.new hr)) ⟨[p], upd_same, .cons ⟨ne_of_none h1 hr, by rw [upd_ne (ne_of_none h1 hr)]; exact h1⟩ .nil⟩⟩
end
/-- the law's promise -/
def sp_law (K : PySem.W.Frag) : Sp := fun vs H Q _ => ∃ (a : Addr) (ns : List Int), vs = [.ref a] ∧ SqL K H a (ns.map V.int) ∧ ns.length ≤ 63 ∧ ∀ H', Q (.bl true) H'
theorem sp_law_go {K : PySem.W.Frag} {H : Hp} {a : Addr} {ns : List Int} (hl : ns.length ≤ 63) (hS : SqL K H a (ns.map V.int)) : sp_law K [.ref a] H (fun v _ => v = .bl true) fun _ _ _ => False := ⟨a, ns, rfl, hS, hl, fun _ => rfl⟩
end RF

namespace RF
/-! ### alike by p -/
def Cg (p a b : Int) : Prop := ∃ k, a = b + p * k
theorem Cg.refl (p a : Int) : Cg p a a := ⟨0, by simp⟩
theorem Cg.of_eq {p a b : Int} (h : a = b) : Cg p a b := h ▸ Cg.refl p a
theorem Cg.symm {p a b : Int} (h : Cg p a b) : Cg p b a := by
  obtain ⟨k, rfl⟩ := h
  exact ⟨-k, by grind⟩
theorem Cg.trans {p a b c : Int} (h : Cg p a b) (h2 : Cg p b c) : Cg p a c := by
  obtain ⟨k, rfl⟩ := h
  obtain ⟨l, rfl⟩ := h2
  exact ⟨k + l, by grind⟩
theorem Cg.add {p a b c d : Int} (h : Cg p a b) (h2 : Cg p c d) : Cg p (a + c) (b + d) := by
  obtain ⟨k, rfl⟩ := h
  obtain ⟨l, rfl⟩ := h2
  exact ⟨k + l, by grind⟩
theorem Cg.sub {p a b c d : Int} (h : Cg p a b) (h2 : Cg p c d) : Cg p (a - c) (b - d) := by
  obtain ⟨k, rfl⟩ := h
  obtain ⟨l, rfl⟩ := h2
  exact ⟨k - l, by grind⟩
theorem Cg.mul {p a b c d : Int} (h : Cg p a b) (h2 : Cg p c d) : Cg p (a * c) (b * d) := by
  obtain ⟨k, rfl⟩ := h
  obtain ⟨l, rfl⟩ := h2
  exact ⟨b * l + k * d + p * k * l, by grind⟩
theorem Cg.mul_left {p b c : Int} (a : Int) (h : Cg p b c) : Cg p (a * b) (a * c) := Cg.mul (Cg.refl p a) h
theorem Cg.emod (p a : Int) : Cg p (a % p) a := ⟨-(a / p), by
  have := Int.emod_add_mul_ediv a p
  grind⟩
theorem Cg.eq {p a b : Int} (h : Cg p a b) : a % p = b % p := by
  obtain ⟨k, rfl⟩ := h
  exact Int.add_mul_emod_self_left b p k
theorem Cg.of_emod {p a b : Int} (h : a % p = b % p) : Cg p a b := by
  have h1 := Cg.emod p a
  rw [h] at h1
  exact h1.symm.trans (Cg.emod p b)
theorem Cg.eq_of {p a b : Int} (h : Cg p a b) (ha : 0 ≤ a ∧ a < p) (hb : 0 ≤ b ∧ b < p) : a = b := by
  have := h.eq
  rw [Int.emod_eq_of_lt ha.1 ha.2, Int.emod_eq_of_lt hb.1 hb.2] at this
  exact this
theorem Cg.sum {p : Int} {f g : Nat → Int} : ∀ {n : Nat}, (∀ i, i < n → Cg p (f i) (g i)) → Cg p (sumN f n) (sumN g n)
  | 0, _ => Cg.refl p 0
  | n + 1, h => Cg.add (Cg.sum fun i hi => h i (Nat.lt_succ_of_lt hi)) (h n (Nat.lt_succ_self n))
/-! ### the row that goes on for ever -/
theorem dotN_sum (row rule : List Int) : ∀ k, dotN row rule k = sumN (fun k => gi rule (k : Int) * gi row ((row.length : Int) - 1 - (k : Int))) k
  | 0 => rfl
  | k + 1 => by
    show dotN row rule k + _ = sumN _ k + _
    rw [dotN_sum row rule k]
theorem gi_append_left {a b : List Int} {i : Nat} (h : i < a.length) : gi (a ++ b) (i : Int) = gi a (i : Int) := by
  rw [gi_nat, gi_nat, List.getD_eq_getElem?_getD, List.getD_eq_getElem?_getD, List.getElem?_append_left h]
theorem gi_append_right {a b : List Int} {i : Nat} (h : a.length ≤ i) : gi (a ++ b) (i : Int) = gi b ((i - a.length : Nat) : Int) := by
  rw [gi_nat, gi_nat, List.getD_eq_getElem?_getD, List.getD_eq_getElem?_getD, List.getElem?_append_right h]
/-- the number at a place: the row begun so gone on with -/
def seqF (p : Int) (rule begin : List Int) (n : Nat) : Int := gi (onBy p rule begin (n + 1)) (n : Int)
theorem onBy_stay (p : Int) (rule row : List Int) (n k : Nat) (h : n < row.length + k) : ∀ j, gi (onBy p rule row (k + j)) (n : Int) = gi (onBy p rule row k) (n : Int)
  | 0 => rfl
  | j + 1 => by
    show gi (onBy p rule row (k + j) ++ [_]) (n : Int) = _
    rw [gi_append_left (by rw [onBy_len]; omega), onBy_stay p rule row n k h j]
theorem onBy_seq {p : Int} {rule row : List Int} {n k : Nat} (h : n < row.length + k) : gi (onBy p rule row k) (n : Int) = seqF p rule row n := by
  unfold seqF
  by_cases h2 : k ≤ n + 1
  · obtain ⟨j, hj⟩ : ∃ j, n + 1 = k + j := ⟨n + 1 - k, by omega⟩
    rw [hj, onBy_stay p rule row n k h j]
  · obtain ⟨j, hj⟩ : ∃ j, k = n + 1 + j := ⟨k - (n + 1), by omega⟩
    rw [hj, onBy_stay p rule row n (n + 1) (by omega) j]
theorem seqF_begin {p : Int} {rule row : List Int} {n : Nat} (h : n < row.length) : seqF p rule row n = gi row (n : Int) := by
  rw [← onBy_seq (k := 0) (by omega)]
  rfl
/-- s goes by the rule, by p -/
def Rec (p : Int) (rule : List Int) (s : Nat → Int) : Prop := ∀ n, Cg p (s (n + rule.length)) (sumN (fun k => gi rule (k : Int) * s (n + rule.length - 1 - k)) rule.length)
theorem nextOf_sum (p : Int) (row rule : List Int) (s : Nat → Int) (m : Nat) (hm : row.length = m) (hl : rule.length ≤ m) (h : ∀ n, n < m → gi row (n : Int) = s n) : nextOf p row rule = sumN (fun k => gi rule (k : Int) * s (m - 1 - k)) rule.length % p := by
  unfold nextOf
  rw [dotN_sum]
  congr 1
  refine sumN_congr fun k hk => ?_
  rw [show (row.length : Int) - 1 - (k : Int) = ((m - 1 - k : Nat) : Int) by omega, h _ (by omega)]
theorem seqF_next {p : Int} {rule row : List Int} {n : Nat} (hl : rule.length ≤ row.length) (h : row.length ≤ n) : seqF p rule row n = sumN (fun k => gi rule (k : Int) * seqF p rule row (n - 1 - k)) rule.length % p := by
  obtain ⟨j, rfl⟩ : ∃ j, n = row.length + j := ⟨n - row.length, by omega⟩
  rw [← onBy_seq (k := j + 1) (by omega)]
  show gi (onBy p rule row j ++ [nextOf p (onBy p rule row j) rule]) ((row.length + j : Nat) : Int) = _
  rw [gi_append_right (by rw [onBy_len]; exact Nat.le_refl _), onBy_len, Nat.sub_self]
  show nextOf p (onBy p rule row j) rule = _
  exact nextOf_sum p _ rule _ _ (onBy_len p rule row j) (by omega) fun m hm => onBy_seq hm
theorem seqF_rec {p : Int} {rule begin : List Int} (hl : begin.length = rule.length) : Rec p rule (seqF p rule begin) := fun n => by
  rw [seqF_next (n := n + rule.length) (by omega) (by omega)]
  exact Cg.emod p _
theorem seqF_nums {p : Int} (hp : 0 < p) {rule begin : List Int} (hb : Nums p begin) (n : Nat) : 0 ≤ seqF p rule begin n ∧ seqF p rule begin n < p := by
  unfold seqF
  exact gi_nums (onBy_nums hp hb _) (by omega) (by rw [onBy_len]; omega)
/-- two rows by one rule that begin alike are alike -/
theorem rec_unique {p : Int} {rule : List Int} {s t : Nat → Int} (hs : Rec p rule s) (ht : Rec p rule t) (h0 : ∀ n, n < rule.length → Cg p (s n) (t n)) : ∀ n, Cg p (s n) (t n) := by
  intro n
  induction n using Nat.strongRecOn with
  | ind n ih =>
    by_cases h : n < rule.length
    · exact h0 n h
    · obtain ⟨m, rfl⟩ : ∃ m, n = m + rule.length := ⟨n - rule.length, by omega⟩
      refine (hs m).trans (Cg.trans ?_ (ht m).symm)
      exact Cg.sum fun k hk => Cg.mul_left _ (ih _ (by omega))
theorem rec_shift {p : Int} {rule : List Int} {s : Nat → Int} (hs : Rec p rule s) (d : Nat) : Rec p rule (fun n => s (n + d)) := fun n => by
  have h := hs (n + d)
  rw [show n + d + rule.length = n + rule.length + d by omega] at h
  refine h.trans (Cg.of_eq (sumN_congr fun k hk => ?_))
  rw [show n + rule.length + d - 1 - k = n + rule.length - 1 - k + d by omega]
/-! ### mixtures of places -/
def val (s : Nat → Int) (m : List Int) (n : Nat) : Int := sumN (fun k => gi m (k : Int) * s (n + k)) m.length
theorem val_more {s : Nat → Int} {m : List Int} {n N : Nat} (h : m.length ≤ N) : val s m n = sumN (fun k => gi m (k : Int) * s (n + k)) N :=
  (sumN_more h fun i h1 _ => by rw [gi_out h1, Int.zero_mul]).symm
theorem sumN_one {f : Nat → Int} {i y : Nat} (hi : i < y) (h : ∀ k, k < y → k ≠ i → f k = 0) : sumN f y = f i := by
  induction y with
  | zero => omega
  | succ y ih =>
    show sumN f y + f y = f i
    by_cases e : i = y
    · subst e
      rw [sumN_zero fun k hk => h k (by omega) (by omega)]
      omega
    · rw [ih (by omega) fun k hk => h k (by omega), h y (by omega) (fun z => e z.symm)]
      omega
theorem gi_set {m : List Int} {i k : Nat} {y : Int} (hi : i < m.length) : gi (m.set i y) (k : Int) = if k = i then y else gi m (k : Int) := by
  by_cases hk : k < m.length
  · rw [gi_lt (by rw [List.length_set]; exact hk), List.getElem_set, gi_lt hk]
    by_cases e : i = k
    · rw [if_pos e, if_pos e.symm]
    · rw [if_neg e, if_neg (fun z : k = i => e z.symm)]
  · rw [gi_out (by rw [List.length_set]; omega), gi_out (by omega), if_neg (by omega)]
theorem val_set (s : Nat → Int) {m : List Int} {i : Nat} (y : Int) (n : Nat) (hi : i < m.length) : val s (m.set i y) n = val s m n + (y - gi m (i : Int)) * s (n + i) := by
  unfold val
  rw [List.length_set]
  have h : sumN (fun k => gi (m.set i y) (k : Int) * s (n + k) - gi m (k : Int) * s (n + k)) m.length = (y - gi m (i : Int)) * s (n + i) := by
    rw [sumN_one hi]
    · rw [gi_set hi, if_pos rfl]
      grind
    · intro k hk hki
      rw [gi_set hi, if_neg hki]
      omega
  rw [sumN_sub] at h
  omega
theorem val_snoc (s : Nat → Int) (m : List Int) (y : Int) (n : Nat) : val s (m ++ [y]) n = val s m n + y * s (n + m.length) := by
  unfold val
  rw [List.length_append]
  show sumN _ m.length + gi (m ++ [y]) (m.length : Int) * _ = _
  rw [gi_append_right (Nat.le_refl _), Nat.sub_self]
  congr 1
  exact sumN_congr fun k hk => by rw [gi_append_left hk]
theorem val_cons (s : Nat → Int) (m : List Int) (n : Nat) : val s ([0] ++ m) n = val s m (n + 1) := by
  unfold val
  rw [List.length_append, Nat.add_comm, show ([0] : List Int).length = 1 from rfl, sumN_head, gi_append_left (by show 0 < 1; decide)]
  show (0 : Int) * _ + _ = _
  rw [Int.zero_mul, Int.zero_add]
  refine sumN_congr fun k hk => ?_
  rw [gi_append_right (by show 1 ≤ k + 1; omega), show k + 1 - ([0] : List Int).length = k from rfl, show n + (k + 1) = n + 1 + k by omega]
theorem gi_snoc (ns : List Int) (y : Int) : gi (ns ++ [y]) (ns.length : Int) = y := by
  rw [gi_append_right (Nat.le_refl _), Nat.sub_self]
  rfl
theorem Nums.set {p : Int} {ns : List Int} {i : Nat} {y : Int} (h : Nums p ns) (hy : 0 ≤ y ∧ y < p) : Nums p (ns.set i y) := fun x hx => by
  rcases List.mem_or_eq_of_mem_set hx with hx | rfl
  · exact h x hx
  · exact hy
/-- a mixture that says the same of all rows by the rule -/
def Low (p : Int) (rule sm res : List Int) : Prop := ∀ s, Rec p rule s → ∀ n, Cg p (val s res n) (val s sm n)
theorem Low.refl (p : Int) (rule sm : List Int) : Low p rule sm sm := fun s _ n => Cg.refl p _
theorem Low.trans {p : Int} {rule a b c : List Int} (h : Low p rule a b) (h2 : Low p rule b c) : Low p rule a c := fun s hs n => (h2 s hs n).trans (h s hs n)
/-- one turn of the lowering: the last one taken away, and told by those ahead of it -/
def LowT (p : Int) (rule init : List Int) (top : Int) (j : Nat) (l : List Int) : Prop :=
  l.length = init.length ∧ Nums p l ∧ ∀ s n, Cg p (val s l n) (val s init n + sumN (fun k => top * gi rule (k : Int) * s (n + (init.length - 1 - k))) j)
theorem lowT_0 {p : Int} {rule init : List Int} (top : Int) (h : Nums p init) : LowT p rule init top 0 init := ⟨rfl, h, fun s n => Cg.of_eq (by show _ = _ + 0; omega)⟩
theorem lowT_s {p : Int} (hp : 0 < p) {rule init l : List Int} {top : Int} {j : Nat} (h : LowT p rule init top j l) (hj : j < init.length) :
    LowT p rule init top (j + 1) (l.set (init.length - 1 - j) ((gi l ((init.length - 1 - j : Nat) : Int) + top * gi rule (j : Int)) % p)) := by
  obtain ⟨h1, h2, h3⟩ := h
  refine ⟨by rw [List.length_set, h1], h2.set ⟨Int.emod_nonneg _ (by omega), Int.emod_lt_of_pos _ hp⟩, fun s n => ?_⟩
  rw [val_set s _ n (by omega)]
  show Cg p _ (val s init n + (sumN _ j + top * gi rule (j : Int) * s (n + (init.length - 1 - j))))
  rw [← Int.add_assoc]
  refine (h3 s n).add ?_
  refine Cg.mul ?_ (Cg.refl p _)
  have := (Cg.emod p (gi l ((init.length - 1 - j : Nat) : Int) + top * gi rule (j : Int))).sub (Cg.refl p (gi l ((init.length - 1 - j : Nat) : Int)))
  refine this.trans (Cg.of_eq (by omega))
theorem lowT_end {p : Int} {rule init l : List Int} {top : Int} (h : LowT p rule init top rule.length l) (hl : rule.length ≤ init.length) : Low p rule (init ++ [top]) l := by
  obtain ⟨h1, h2, h3⟩ := h
  intro s hs n
  refine (h3 s n).trans ?_
  rw [val_snoc]
  refine (Cg.refl p _).add ?_
  have e : sumN (fun k => top * gi rule (k : Int) * s (n + (init.length - 1 - k))) rule.length = top * sumN (fun k => gi rule (k : Int) * s (n + init.length - 1 - k)) rule.length := by
    rw [← sumN_mul]
    refine sumN_congr fun k hk => ?_
    rw [Int.mul_assoc, show n + (init.length - 1 - k) = n + init.length - 1 - k by omega]
  rw [e]
  refine Cg.mul_left _ ?_
  have h := hs (n + init.length - rule.length)
  rw [show n + init.length - rule.length + rule.length = n + init.length by omega] at h
  exact h.symm
/-! ### products of mixtures -/
def TimS (one other : List Int) (k j : Nat) (s : Nat → Int) (n : Nat) : Int := sumN (fun k => gi one (k : Int) * val s other (n + k)) k + sumN (fun j => gi one (k : Int) * gi other (j : Int) * s (n + k + j)) j
def TimT (p : Int) (one other : List Int) (k j : Nat) (l : List Int) : Prop := l.length = one.length + other.length - 1 ∧ Nums p l ∧ ∀ s n, Cg p (val s l n) (TimS one other k j s n)
theorem val_zeros (s : Nat → Int) (N n : Nat) : val s (tab N fun _ => 0) n = 0 := sumN_zero fun i hi => by
  rw [tab_len] at hi
  rw [tab_gi hi, Int.zero_mul]
theorem timT_0 {p : Int} (hp : 0 < p) (one other : List Int) : TimT p one other 0 0 (tab (one.length + other.length - 1) fun _ => 0) :=
  ⟨tab_len _ _, tab_nums fun i _ => ⟨Int.le_refl 0, hp⟩, fun s n => Cg.of_eq (val_zeros s _ n)⟩
theorem timT_s {p : Int} (hp : 0 < p) {one other l : List Int} {k j : Nat} (h : TimT p one other k j l) (hk : k < one.length) (hj : j < other.length) :
    TimT p one other k (j + 1) (l.set (k + j) ((gi l ((k + j : Nat) : Int) + gi one (k : Int) * gi other (j : Int)) % p)) := by
  obtain ⟨h1, h2, h3⟩ := h
  refine ⟨by rw [List.length_set, h1], h2.set ⟨Int.emod_nonneg _ (by omega), Int.emod_lt_of_pos _ hp⟩, fun s n => ?_⟩
  rw [val_set s _ n (by omega)]
  show Cg p _ (sumN _ k + (sumN _ j + gi one (k : Int) * gi other (j : Int) * s (n + k + j)))
  rw [← Int.add_assoc, Nat.add_assoc n k j]
  refine (h3 s n).add ?_
  refine Cg.mul ?_ (Cg.refl p _)
  have := (Cg.emod p (gi l ((k + j : Nat) : Int) + gi one (k : Int) * gi other (j : Int))).sub (Cg.refl p (gi l ((k + j : Nat) : Int)))
  refine this.trans (Cg.of_eq (by omega))
theorem timT_row {p : Int} {one other l : List Int} {k : Nat} (h : TimT p one other k other.length l) : TimT p one other (k + 1) 0 l := by
  obtain ⟨h1, h2, h3⟩ := h
  refine ⟨h1, h2, fun s n => (h3 s n).trans (Cg.of_eq ?_)⟩
  unfold TimS
  show _ = sumN _ k + gi one (k : Int) * val s other (n + k) + 0
  unfold val
  rw [← sumN_mul, Int.add_zero]
  congr 1
  exact sumN_congr fun j hj => Int.mul_assoc _ _ _
/-- what times tells: each one shifted by the other -/
def Tim (p : Int) (rule one other res : List Int) : Prop := ∀ s, Rec p rule s → ∀ n, Cg p (val s res n) (sumN (fun k => gi one (k : Int) * val s other (n + k)) one.length)
theorem timT_end {p : Int} {rule one other l : List Int} (h : TimT p one other one.length 0 l) : Tim p rule one other l := fun s _ n => (h.2.2 s n).trans (Cg.of_eq (by
  unfold TimS
  show _ + 0 = _
  omega))
theorem Tim.low {p : Int} {rule one other l res : List Int} (h : Tim p rule one other l) (h2 : Low p rule l res) : Tim p rule one other res := fun s hs n => (h2 s hs n).trans (h s hs n)
/-- a mixture that is a far place -/
def Mix (p : Int) (rule : List Int) (place : Nat) (m : List Int) : Prop := ∀ s, Rec p rule s → ∀ n, Cg p (val s m n) (s (n + place))
theorem mix_0 {p : Int} {rule m : List Int} (h : Low p rule [1] m) : Mix p rule 0 m := fun s hs n => (h s hs n).trans (Cg.of_eq (by
  show 0 + 1 * s (n + 0) = s (n + 0)
  omega))
theorem mix_2 {p : Int} {rule h m : List Int} {q : Nat} (hh : Mix p rule q h) (ht : Tim p rule h h m) : Mix p rule (2 * q) m := fun s hs n => by
  refine (ht s hs n).trans ?_
  have a : Cg p (sumN (fun k => gi h (k : Int) * val s h (n + k)) h.length) (sumN (fun k => gi h (k : Int) * s (n + q + k)) h.length) := Cg.sum fun k hk => Cg.mul_left _ ((hh s hs (n + k)).trans (Cg.of_eq (by rw [show n + k + q = n + q + k by omega])))
  refine a.trans ((hh s hs (n + q)).trans (Cg.of_eq ?_))
  rw [show n + q + q = n + 2 * q by omega]
theorem mix_1 {p : Int} {rule m res : List Int} {q : Nat} (h : Mix p rule q m) (hl : Low p rule ([0] ++ m) res) : Mix p rule (q + 1) res := fun s hs n => by
  refine (hl s hs n).trans ?_
  rw [val_cons]
  refine (h s hs (n + 1)).trans (Cg.of_eq ?_)
  rw [show n + 1 + q = n + (q + 1) by omega]
/-- the number at the far place -/
theorem mix_far {p : Int} (hp : 0 < p) {rule begin m : List Int} {place : Nat} (hb : begin.length = rule.length) (hn : Nums p begin) (hm : m.length ≤ rule.length) (h : Mix p rule place m) : sumN (fun k => gi m (k : Int) * gi begin (k : Int)) m.length % p = seqF p rule begin place := by
  have a := h _ (seqF_rec hb) 0
  have e : val (seqF p rule begin) m 0 = sumN (fun k => gi m (k : Int) * gi begin (k : Int)) m.length := sumN_congr fun k hk => by
    rw [Nat.zero_add, seqF_begin (by omega)]
  rw [e, Nat.zero_add] at a
  have b := seqF_nums hp hn (rule := rule) place
  rw [a.eq, Int.emod_eq_of_lt b.1 b.2]
theorem big97 : ((100000000000000000000000000000 : Int) < ((2 ^ 97 : Nat) : Int)) := by decide +kernel
end RF

namespace RF
/-! ### an inverse by p -/
def invN (p x : Int) : Nat → Int
  | 0 => 1
  | k + 1 => invN p x k * x % p
def invP (p x : Int) : Int := invN p x (p - 2).toNat
theorem invP_all : (primes.all fun p => (List.range p.toNat).all fun x => x == 0 || (invP p (x : Int) * (x : Int)) % p == 1) = true := by decide +kernel
theorem primes_inv {p : Int} (hp : p ∈ primes) {x : Int} (h0 : 0 < x) (h1 : x < p) : Cg p (invP p x * x) 1 := by
  have h := (List.all_eq_true.mp ((List.all_eq_true.mp invP_all) p hp)) x.toNat (List.mem_range.mpr (by omega))
  have hp2 := primes_le p hp
  rw [Int.toNat_of_nonneg (by omega), Bool.or_eq_true] at h
  rcases h with h | h
  · have := eq_of_beq h
    omega
  · refine Cg.of_emod ?_
    rw [eq_of_beq h, Int.emod_eq_of_lt (by omega) (by omega)]
theorem invN_bounds {p x : Int} (hp : 2 ≤ p) : ∀ k, 0 ≤ invN p x k ∧ invN p x k < p
  | 0 => ⟨by show (0 : Int) ≤ 1; omega, by show (1 : Int) < p; omega⟩
  | _ + 1 => ⟨Int.emod_nonneg _ (by omega), Int.emod_lt_of_pos _ (by omega)⟩
theorem invP_bounds {p : Int} (x : Int) (hp : 2 ≤ p) : 0 ≤ invP p x ∧ invP p x < p := invN_bounds hp _
/-! ### what a test makes of a row up to a place -/
theorem sumN_split (f : Nat → Int) (n : Nat) : ∀ m, sumN f (n + m) = sumN f n + sumN (fun i => f (n + i)) m
  | 0 => by
    show sumN f n = sumN f n + 0
    omega
  | m + 1 => by
    show sumN f (n + m) + f (n + m) = sumN f n + (sumN (fun i => f (n + i)) m + f (n + m))
    rw [sumN_split f n m]
    omega
def flt (row t : List Int) (n : Nat) : Int := sumN (fun k => gi t (k : Int) * gi row ((n - k : Nat) : Int)) (n + 1)
theorem flt_len {row t : List Int} {n m : Nat} (h : t.length ≤ m) (h2 : m ≤ n + 1) : flt row t n = sumN (fun k => gi t (k : Int) * gi row ((n - k : Nat) : Int)) m :=
  sumN_more h2 fun i h1 _ => by rw [gi_out (by omega), Int.zero_mul]
theorem flt_row {row row2 t : List Int} {n : Nat} (h : ∀ i, i ≤ n → gi row (i : Int) = gi row2 (i : Int)) : flt row t n = flt row2 t n := sumN_congr fun k hk => by rw [h _ (by omega)]
/-- a test shifted -/
def shl (t : List Int) (d k : Nat) : Int := if d ≤ k then gi t ((k - d : Nat) : Int) else 0
theorem flt_shl (row t : List Int) (d n : Nat) : sumN (fun k => shl t d k * gi row ((n - k : Nat) : Int)) (n + 1) = if d ≤ n then flt row t (n - d) else 0 := by
  by_cases h : d ≤ n
  · rw [if_pos h, show n + 1 = d + (n - d + 1) by omega, sumN_split, sumN_zero fun i hi => by
      unfold shl
      rw [if_neg (by omega), Int.zero_mul], Int.zero_add]
    unfold flt
    refine sumN_congr fun i hi => ?_
    unfold shl
    rw [if_pos (by omega), show d + i - d = i by omega, show n - (d + i) = n - d - i by omega]
  · rw [if_neg h]
    exact sumN_zero fun i hi => by
      unfold shl
      rw [if_neg (by omega), Int.zero_mul]
/-- a test less an older one, scaled and shifted -/
def mendL (p : Int) (test older : List Int) (scale : Int) (d : Nat) : List Int := tab (max test.length (older.length + d)) fun k => (gi test (k : Int) - scale * shl older d k) % p
theorem mendL_gi (p : Int) (test older : List Int) (scale : Int) (d k : Nat) : Cg p (gi (mendL p test older scale d) (k : Int)) (gi test (k : Int) - scale * shl older d k) := by
  unfold mendL
  by_cases h : k < max test.length (older.length + d)
  · rw [tab_gi h]
    exact Cg.emod p _
  · rw [gi_out (by rw [tab_len]; omega), gi_out (by omega)]
    unfold shl
    split
    · rw [gi_out (by omega)]
      exact Cg.of_eq (by omega)
    · exact Cg.of_eq (by omega)
theorem mendL_flt (p : Int) (row test older : List Int) (scale : Int) (d n : Nat) : Cg p (flt row (mendL p test older scale d) n) (flt row test n - scale * (if d ≤ n then flt row older (n - d) else 0)) := by
  rw [← flt_shl, ← sumN_mul]
  unfold flt
  rw [← sumN_sub]
  refine Cg.sum fun k hk => ?_
  have h := (mendL_gi p test older scale d k).mul (Cg.refl p (gi row ((n - k : Nat) : Int)))
  refine h.trans (Cg.of_eq ?_)
  rw [Int.sub_mul, Int.mul_assoc]
theorem mendL_nums {p : Int} (hp : 0 < p) (test older : List Int) (scale : Int) (d : Nat) : Nums p (mendL p test older scale d) := tab_nums fun i _ => ⟨Int.emod_nonneg _ (by omega), Int.emod_lt_of_pos _ hp⟩
/-! ### the shortest rule's making -/
structure BM where
  test : List Int
  older : List Int
  past : Int
  shift : Nat
  long : Nat
  jump : Option (List Int × Nat × Int)
def bm0 : BM := ⟨[1], [1], 1, 1, 0, none⟩
def hereOf (p : Int) (row : List Int) (n : Nat) (s : BM) : Int := flt row s.test n % p
def freshOf (p : Int) (row : List Int) (n : Nat) (s : BM) : List Int := mendL p s.test s.older (hereOf p row n s * invP p s.past) s.shift
def bmS (p : Int) (row : List Int) (n : Nat) (s : BM) : BM :=
  if hereOf p row n s = 0 then ⟨s.test, s.older, s.past, s.shift + 1, s.long, s.jump⟩
  else if 2 * s.long ≤ n then ⟨freshOf p row n s, s.test, hereOf p row n s, 1, n + 1 - s.long, some (s.test, n, hereOf p row n s)⟩
  else ⟨freshOf p row n s, s.older, s.past, s.shift + 1, s.long, s.jump⟩
def bmN (p : Int) (row : List Int) : Nat → BM
  | 0 => bm0
  | n + 1 => bmS p row n (bmN p row n)
structure Jmp (p : Int) (row : List Int) (n long : Nat) (t : List Int) (m : Nat) (h : Int) : Prop where
  nt : Nums p t
  h0 : 0 < h
  h1 : h < p
  hf : Cg p (flt row t m) h
  l1 : 1 ≤ long
  lm : long ≤ m + 1
  tl : t.length + long ≤ m + 2
  mn : m < n
  kt : ∀ i, m + 1 ≤ i + long → i < m → Cg p (flt row t i) 0
structure Inv (p : Int) (row : List Int) (n : Nat) (s : BM) : Prop where
  nt : Nums p s.test
  no : Nums p s.older
  t0 : gi s.test ((0 : Nat) : Int) = 1
  t1 : 1 ≤ s.test.length
  o1 : 1 ≤ s.older.length
  lt : s.test.length ≤ s.long + 1
  lo : s.older.length + s.shift + s.long ≤ n + 2
  ln : s.long ≤ n
  kt : ∀ j, s.long ≤ j → j < n → Cg p (flt row s.test j) 0
  sh : 1 ≤ s.shift
  sn : s.shift ≤ n + 1
  p0 : 0 < s.past
  p1 : s.past < p
  ko : s.shift ≤ n → Cg p (flt row s.older (n - s.shift)) s.past ∧ ∀ i, n + 1 ≤ i + s.long + s.shift → i + s.shift < n → Cg p (flt row s.older i) 0
  k0 : s.shift = n + 1 → s.long = 0
  jn : s.jump = none → s.long = 0
  js : ∀ t m h, s.jump = some (t, m, h) → Jmp p row n s.long t m h
theorem Jmp.more {p : Int} {row : List Int} {n long : Nat} {t : List Int} {m : Nat} {h : Int} (J : Jmp p row n long t m h) : Jmp p row (n + 1) long t m h := ⟨J.nt, J.h0, J.h1, J.hf, J.l1, J.lm, J.tl, Nat.lt_succ_of_lt J.mn, J.kt⟩
theorem inv_0 {p : Int} (hp : 2 ≤ p) (row : List Int) : Inv p row 0 bm0 where
  nt := Nums.one (by omega) (by omega)
  no := Nums.one (by omega) (by omega)
  t0 := rfl
  t1 := Nat.le_refl 1
  o1 := Nat.le_refl 1
  lt := Nat.le_refl 1
  lo := Nat.le_refl 2
  ln := Nat.le_refl 0
  kt := fun j _ h => absurd h (Nat.not_lt_zero j)
  sh := Nat.le_refl 1
  sn := Nat.le_refl 1
  p0 := by show (0 : Int) < 1; omega
  p1 := by show (1 : Int) < p; omega
  ko := fun h => absurd h (by decide)
  k0 := fun _ => rfl
  jn := fun _ => rfl
  js := fun t m h e => by cases e
theorem here_cg (p : Int) (row : List Int) (n : Nat) (s : BM) : Cg p (hereOf p row n s) (flt row s.test n) := Cg.emod p _
/-- the fresh test kills -/
theorem fresh_kills {p : Int} (hp : p ∈ primes) {row : List Int} {n : Nat} {s : BM} (I : Inv p row n s) {j : Nat} (h1 : s.long ≤ j) (h2 : n + 1 ≤ j + s.long) (h3 : j ≤ n) : Cg p (flt row (freshOf p row n s) j) 0 := by
  refine (mendL_flt p row s.test s.older _ s.shift j).trans ?_
  have hsn := I.sn
  have hk0 := I.k0
  have hln := I.ln
  by_cases e : j = n
  · subst e
    have hs : s.shift ≤ j := by
      by_cases z : s.shift = j + 1
      · have := hk0 z
        omega
      · omega
    rw [if_pos hs]
    have a := (I.ko hs).1
    have b := (Cg.refl p (hereOf p row j s * invP p s.past)).mul a
    have c : Cg p (hereOf p row j s * invP p s.past * s.past) (hereOf p row j s) := by
      rw [Int.mul_assoc]
      refine (Cg.mul_left _ (primes_inv hp I.p0 I.p1)).trans (Cg.of_eq (by omega))
    refine ((Cg.refl p _).sub ((b.trans c).trans (here_cg p row j s))).trans (Cg.of_eq (by omega))
  · have a := I.kt j h1 (by omega)
    refine (a.sub (Cg.mul_left _ (c := 0) ?_)).trans (Cg.of_eq (by omega))
    by_cases z : s.shift ≤ j
    · rw [if_pos z]
      exact (I.ko (by omega)).2 _ (by omega) (by omega)
    · rw [if_neg z]
      exact Cg.refl p 0
theorem fresh_0 {p : Int} (hp : p ∈ primes) {row : List Int} {n : Nat} {s : BM} (I : Inv p row n s) : gi (freshOf p row n s) ((0 : Nat) : Int) = 1 := by
  have hp2 := primes_le p hp
  have h1 := I.sh
  have h2 := I.t1
  unfold freshOf mendL
  rw [tab_gi (by omega)]
  unfold shl
  rw [if_neg (by omega), I.t0, Int.mul_zero, Int.sub_zero, Int.emod_eq_of_lt (by omega) (by omega)]
theorem fresh_len (p : Int) (row : List Int) (n : Nat) (s : BM) : (freshOf p row n s).length = max s.test.length (s.older.length + s.shift) := tab_len _ _
theorem inv_s {p : Int} (hp : p ∈ primes) {row : List Int} {n : Nat} {s : BM} (I : Inv p row n s) : Inv p row (n + 1) (bmS p row n s) := by
  have hp2 := primes_le p hp
  have hlo := I.lo
  have hln := I.ln
  have hlt := I.lt
  have hsn := I.sn
  have hsh := I.sh
  have ht1 := I.t1
  have ho1 := I.o1
  have hb : 0 ≤ hereOf p row n s ∧ hereOf p row n s < p := ⟨Int.emod_nonneg _ (by omega), Int.emod_lt_of_pos _ (by omega)⟩
  unfold bmS
  by_cases h : hereOf p row n s = 0
  · rw [if_pos h]
    refine ⟨I.nt, I.no, I.t0, I.t1, I.o1, I.lt, by show s.older.length + (s.shift + 1) + s.long ≤ _; omega, by show s.long ≤ _; omega, fun j h1 h2 => ?_, by show 1 ≤ s.shift + 1; omega, by show s.shift + 1 ≤ _; omega, I.p0, I.p1, fun h1 => ?_, fun h1 => I.k0 (by have h1 : s.shift + 1 = n + 1 + 1 := h1; omega), I.jn, fun t m h e => (I.js t m h e).more⟩
    · by_cases e : j = n
      · subst e
        refine ((here_cg p row j s).symm).trans (Cg.of_eq h)
      · exact I.kt j h1 (by omega)
    · have h1 : s.shift + 1 ≤ n + 1 := h1
      show Cg p (flt row s.older (n + 1 - (s.shift + 1))) s.past ∧ _
      rw [show n + 1 - (s.shift + 1) = n - s.shift by omega]
      refine ⟨(I.ko (by omega)).1, fun i h2 h3 => ?_⟩
      have h2 : n + 1 + 1 ≤ i + s.long + (s.shift + 1) := h2
      have h3 : i + (s.shift + 1) < n + 1 := h3
      exact (I.ko (by omega)).2 i (by omega) (by omega)
  · rw [if_neg h]
    have hl := fresh_len p row n s
    have hn := mendL_nums (p := p) (by omega) s.test s.older (hereOf p row n s * invP p s.past) s.shift
    by_cases h2 : 2 * s.long ≤ n
    · rw [if_pos h2]
      refine ⟨hn, I.nt, fresh_0 hp I, by show 1 ≤ (freshOf p row n s).length; omega, I.t1, by show (freshOf p row n s).length ≤ n + 1 - s.long + 1; omega, by show s.test.length + 1 + (n + 1 - s.long) ≤ _; omega, by show n + 1 - s.long ≤ _; omega, fun j h3 h4 => ?_, Nat.le_refl 1, by show 1 ≤ _; omega, by show 0 < hereOf p row n s; omega, hb.2, fun _ => ?_, fun h3 => ?_, fun h3 => (by cases h3), fun t m hh e => ?_⟩
      · have h3 : n + 1 - s.long ≤ j := h3
        exact fresh_kills hp I (by omega) (by omega) (by omega)
      · show Cg p (flt row s.test (n + 1 - 1)) (hereOf p row n s) ∧ _
        refine ⟨(here_cg p row n s).symm, fun i h3 h4 => ?_⟩
        have h3 : n + 1 + 1 ≤ i + (n + 1 - s.long) + 1 := h3
        have h4 : i + 1 < n + 1 := h4
        exact I.kt i (by omega) (by omega)
      · have h3 : 1 = n + 1 + 1 := h3
        omega
      · cases e
        refine ⟨I.nt, by omega, hb.2, (here_cg p row n s).symm, by show 1 ≤ n + 1 - s.long; omega, by show n + 1 - s.long ≤ _; omega, by show s.test.length + (n + 1 - s.long) ≤ _; omega, by omega, fun i h3 h4 => ?_⟩
        have h3 : n + 1 ≤ i + (n + 1 - s.long) := h3
        exact I.kt i (by omega) (by omega)
    · rw [if_neg h2]
      refine ⟨hn, I.no, fresh_0 hp I, by show 1 ≤ (freshOf p row n s).length; omega, I.o1, by show (freshOf p row n s).length ≤ s.long + 1; omega, by show s.older.length + (s.shift + 1) + s.long ≤ _; omega, by show s.long ≤ _; omega, fun j h3 h4 => ?_, by show 1 ≤ s.shift + 1; omega, by show s.shift + 1 ≤ _; omega, I.p0, I.p1, fun h1 => ?_, fun h1 => I.k0 (by have h1 : s.shift + 1 = n + 1 + 1 := h1; omega), I.jn, fun t m h e => (I.js t m h e).more⟩
      · have h3 : s.long ≤ j := h3
        exact fresh_kills hp I (by omega) (by omega) (by omega)
      · have h1 : s.shift + 1 ≤ n + 1 := h1
        show Cg p (flt row s.older (n + 1 - (s.shift + 1))) s.past ∧ _
        rw [show n + 1 - (s.shift + 1) = n - s.shift by omega]
        refine ⟨(I.ko (by omega)).1, fun i h2 h3 => ?_⟩
        have h2 : n + 1 + 1 ≤ i + s.long + (s.shift + 1) := h2
        have h3 : i + (s.shift + 1) < n + 1 := h3
        exact (I.ko (by omega)).2 i (by omega) (by omega)
theorem bm_inv {p : Int} (hp : p ∈ primes) (row : List Int) : ∀ n, Inv p row n (bmN p row n)
  | 0 => inv_0 (primes_le p hp).1 row
  | n + 1 => inv_s hp (bm_inv hp row n)
/-! ### rows that go by a rule -/
def Goes (p : Int) (row rule : List Int) : Prop := ∀ n, rule.length ≤ n → n < row.length → Cg p (gi row (n : Int)) (sumN (fun k => gi rule (k : Int) * gi row ((n - 1 - k : Nat) : Int)) rule.length)
theorem gi_take {row : List Int} {m n : Nat} (h : n < m) : gi (row.take m) (n : Int) = gi row (n : Int) := by
  rw [gi_nat, gi_nat, List.getD_eq_getElem?_getD, List.getD_eq_getElem?_getD, List.getElem?_take_of_lt h]
theorem next_take (p : Int) (row rule : List Int) {m : Nat} (h : m ≤ row.length) (hl : rule.length ≤ m) : nextOf p (row.take m) rule = sumN (fun k => gi rule (k : Int) * gi row ((m - 1 - k : Nat) : Int)) rule.length % p :=
  nextOf_sum p _ rule (fun n => gi row (n : Int)) m (by rw [List.length_take]; omega) hl fun n hn => gi_take hn
theorem goes_B {p : Int} {row rule : List Int} (hp : 0 < p) (hr : Nums p row) : Goes p row rule ↔ goesB p row rule = true := by
  constructor
  · intro h
    refine goesB_yes fun i hi => ?_
    rw [next_take p row rule (by omega) (by omega)]
    have a := h (rule.length + i) (by omega) (by omega)
    have b := gi_nums hr (i := ((rule.length + i : Nat) : Int)) (by omega) (by omega)
    have c := a.eq
    rw [Int.emod_eq_of_lt b.1 b.2] at c
    rw [← c]
    congr 1
  · intro h n h1 h2
    unfold goesB at h
    have a := of_decide_eq_true ((List.all_eq_true.mp h) (n - rule.length) (List.mem_range.mpr (by omega)))
    rw [show rule.length + (n - rule.length) = n by omega, next_take p row rule (by omega) h1, show (rule.length : Int) + ((n - rule.length : Nat) : Int) = (n : Int) by omega] at a
    rw [a]
    exact Cg.emod p _
/-- the rule that a test tells -/
def ruleOf (p : Int) (s : BM) : List Int := tab s.long fun k => (0 - gi s.test ((k + 1 : Nat) : Int)) % p
theorem ruleOf_len (p : Int) (s : BM) : (ruleOf p s).length = s.long := tab_len _ _
theorem ruleOf_nums {p : Int} (hp : 0 < p) (s : BM) : Nums p (ruleOf p s) := tab_nums fun i _ => ⟨Int.emod_nonneg _ (by omega), Int.emod_lt_of_pos _ hp⟩
theorem rule_flt {p : Int} {row : List Int} {n : Nat} {s : BM} (I : Inv p row n s) {m : Nat} (h : s.long ≤ m) : Cg p (flt row s.test m) (gi row (m : Int) - sumN (fun k => gi (ruleOf p s) (k : Int) * gi row ((m - 1 - k : Nat) : Int)) s.long) := by
  have e : flt row s.test m = gi row (m : Int) + sumN (fun k => gi s.test ((k + 1 : Nat) : Int) * gi row ((m - 1 - k : Nat) : Int)) s.long := by
    rw [flt_len (m := s.long + 1) I.lt (by omega), sumN_head, I.t0, Int.one_mul]
    have z : sumN (fun i => gi s.test ((i + 1 : Nat) : Int) * gi row ((m - (i + 1) : Nat) : Int)) s.long = sumN (fun k => gi s.test ((k + 1 : Nat) : Int) * gi row ((m - 1 - k : Nat) : Int)) s.long := sumN_congr fun k hk => by rw [show m - (k + 1) = m - 1 - k by omega]
    rw [z]
    rfl
  rw [e]
  have a : Cg p (sumN (fun k => gi (ruleOf p s) (k : Int) * gi row ((m - 1 - k : Nat) : Int)) s.long) (sumN (fun k => (-1) * (gi s.test ((k + 1 : Nat) : Int) * gi row ((m - 1 - k : Nat) : Int))) s.long) := Cg.sum fun k hk => by
    unfold ruleOf
    rw [tab_gi hk]
    refine ((Cg.emod p _).mul (Cg.refl p _)).trans (Cg.of_eq (by grind))
  rw [sumN_mul] at a
  have b := ((Cg.refl p (gi row (m : Int))).sub a).symm
  exact Cg.trans (Cg.of_eq (by omega)) b
theorem rule_goes {p : Int} {row : List Int} {s : BM} (I : Inv p row row.length s) : Goes p row (ruleOf p s) := fun n h1 h2 => by
  rw [ruleOf_len] at h1 ⊢
  have a := (rule_flt I h1).symm.trans (I.kt n h1 h2)
  have b := a.add (Cg.refl p (sumN (fun k => gi (ruleOf p s) (k : Int) * gi row ((n - 1 - k : Nat) : Int)) s.long))
  exact (Cg.of_eq (by omega)).trans (b.trans (Cg.of_eq (by omega)))
/-- no shorter one goes -/
theorem rule_least {p : Int} (hp : 2 ≤ p) {row : List Int} {s : BM} (I : Inv p row row.length s) {rule : List Int} (hg : Goes p row rule) : s.long ≤ rule.length := by
  cases hj : s.jump with
  | none =>
    have := I.jn hj
    omega
  | some z =>
    obtain ⟨t, m, h⟩ := z
    have J := I.js t m h hj
    have j1 := J.l1
    have j2 := J.lm
    have j3 := J.tl
    have j4 := J.mn
    refine Nat.le_of_not_lt fun hlt => ?_
    have a1 : Cg p (flt row t m) (sumN (fun i => gi rule (i : Int) * flt row t (m - 1 - i)) rule.length) := by
      rw [flt_len (m := t.length) (Nat.le_refl _) (by omega)]
      have b : Cg p (sumN (fun k => gi t (k : Int) * gi row ((m - k : Nat) : Int)) t.length) (sumN (fun k => gi t (k : Int) * sumN (fun i => gi rule (i : Int) * gi row ((m - k - 1 - i : Nat) : Int)) rule.length) t.length) := Cg.sum fun k hk => Cg.mul_left _ (hg (m - k) (by omega) (by omega))
      refine b.trans (Cg.of_eq ?_)
      have c : sumN (fun k => gi t (k : Int) * sumN (fun i => gi rule (i : Int) * gi row ((m - k - 1 - i : Nat) : Int)) rule.length) t.length = sumN (fun k => sumN (fun i => gi t (k : Int) * (gi rule (i : Int) * gi row ((m - k - 1 - i : Nat) : Int))) rule.length) t.length := sumN_congr fun k hk => (sumN_mul _ _ _).symm
      rw [c, sumN_swap]
      refine sumN_congr fun i hi => ?_
      rw [flt_len (m := t.length) (Nat.le_refl _) (by omega), ← sumN_mul]
      refine sumN_congr fun k hk => ?_
      rw [show m - k - 1 - i = m - 1 - i - k by omega]
      grind
    have a2 : Cg p (sumN (fun i => gi rule (i : Int) * flt row t (m - 1 - i)) rule.length) (sumN (fun i => gi rule (i : Int) * 0) rule.length) := Cg.sum fun i hi => Cg.mul_left _ (J.kt _ (by omega) (by omega))
    have a3 : sumN (fun i => gi rule (i : Int) * 0) rule.length = 0 := sumN_zero fun i _ => by rw [Int.mul_zero]
    rw [a3] at a2
    have a4 := J.hf.symm.trans (a1.trans a2)
    have a5 := a4.eq_of ⟨by have := J.h0; omega, J.h1⟩ ⟨Int.le_refl 0, by omega⟩
    have := J.h0
    omega
/-- a beginning's making is the beginning of the making -/
theorem bm_take (p : Int) (row : List Int) (m : Nat) : ∀ n, n ≤ m → bmN p (row.take m) n = bmN p row n
  | 0, _ => rfl
  | n + 1, h => by
    show bmS p (row.take m) n (bmN p (row.take m) n) = bmS p row n (bmN p row n)
    rw [bm_take p row m n (by omega)]
    have e : hereOf p (row.take m) n (bmN p row n) = hereOf p row n (bmN p row n) := by
      unfold hereOf
      rw [flt_row fun i hi => gi_take (by omega)]
    unfold bmS freshOf
    rw [e]
/-- how the lengths rise -/
theorem bm_rise (p : Int) (row : List Int) (n : Nat) : (bmN p row (n + 1)).long = if hereOf p row n (bmN p row n) = 0 then (bmN p row n).long else max (bmN p row n).long (n + 1 - (bmN p row n).long) := by
  show (bmS p row n (bmN p row n)).long = _
  unfold bmS
  by_cases h : hereOf p row n (bmN p row n) = 0
  · rw [if_pos h, if_pos h]
  · rw [if_neg h, if_neg h]
    by_cases h2 : 2 * (bmN p row n).long ≤ n
    · rw [if_pos h2]
      show n + 1 - (bmN p row n).long = _
      omega
    · rw [if_neg h2]
      show (bmN p row n).long = _
      omega
theorem bm_tells {p : Int} {row : List Int} {n : Nat} (hp : p ∈ primes) (hr : Nums p row) (h : n < row.length) : (hereOf p row n (bmN p row n) = 0) ↔ gi row (n : Int) = nextOf p (row.take n) (ruleOf p (bmN p row n)) := by
  have I := bm_inv hp row n
  have hp2 := primes_le p hp
  have hl := I.ln
  have b := gi_nums hr (i := (n : Int)) (by omega) (by omega)
  rw [next_take p row _ (by omega) (by rw [ruleOf_len]; exact hl), ruleOf_len]
  have a := (here_cg p row n (bmN p row n)).trans (rule_flt I hl)
  constructor
  · intro e
    rw [e] at a
    have c := (a.add (Cg.refl p (sumN (fun k => gi (ruleOf p (bmN p row n)) (k : Int) * gi row ((n - 1 - k : Nat) : Int)) (bmN p row n).long))).symm
    have d := ((Cg.of_eq (by omega)).trans (c.trans (Cg.of_eq (by omega))) : Cg p (gi row (n : Int)) (sumN (fun k => gi (ruleOf p (bmN p row n)) (k : Int) * gi row ((n - 1 - k : Nat) : Int)) (bmN p row n).long)).eq
    rw [Int.emod_eq_of_lt b.1 b.2] at d
    exact d
  · intro e
    have c : Cg p (gi row (n : Int)) (sumN (fun k => gi (ruleOf p (bmN p row n)) (k : Int) * gi row ((n - 1 - k : Nat) : Int)) (bmN p row n).long) := by
      rw [e]
      exact Cg.emod p _
    have d := a.trans ((c.sub (Cg.refl p _)).trans (Cg.of_eq (Int.sub_self _)))
    exact d.eq_of ⟨Int.emod_nonneg _ (by omega), Int.emod_lt_of_pos _ (by omega)⟩ ⟨Int.le_refl 0, by omega⟩
end RF
namespace RF
def longsL (p : Int) (row : List Int) (n : Nat) : List Int := tab (n + 1) fun i => ((bmN p row i).long : Int)
theorem longs_len (p : Int) (row : List Int) (n : Nat) : (longsL p row n).length = n + 1 := tab_len _ _
theorem longs_succ (p : Int) (row : List Int) (n : Nat) : longsL p row (n + 1) = longsL p row n ++ [((bmN p row (n + 1)).long : Int)] := tab_succ _ _
theorem longs_gi (p : Int) (row : List Int) {n i : Nat} (h : i ≤ n) : gi (longsL p row n) (i : Int) = ((bmN p row i).long : Int) := tab_gi (by omega)
theorem longs_last (p : Int) (row : List Int) (n : Nat) : gi (longsL p row n) (((longsL p row n).length : Int) - 1) = ((bmN p row n).long : Int) := by
  rw [longs_len, show (((n + 1 : Nat) : Int) - 1) = (n : Int) by omega]
  exact longs_gi p row (Nat.le_refl n)
theorem sum_filter (f : Nat → Bool) (v : Nat → Int) : ∀ n, (((List.range n).filter f).map v).sum = sumN (fun k => if f k = true then v k else 0) n
  | 0 => rfl
  | n + 1 => by
    rw [List.range_succ, List.filter_append, List.map_append, List.sum_append, sum_filter f v n]
    show _ = sumN _ n + (if f n = true then v n else 0)
    cases h : f n with
    | true => simp [h]
    | false => simp [h]
theorem flt_filter (row t : List Int) (m : Nat) : (((List.range t.length).filter fun (k : Nat) => decide ((k : Int) ≤ (m : Int))).map fun (k : Nat) => gi t (k : Int) * gi row ((m : Int) - (k : Int))).sum = flt row t m := by
  rw [sum_filter]
  have a : sumN (fun k => if (decide ((k : Int) ≤ (m : Int))) = true then gi t (k : Int) * gi row ((m : Int) - (k : Int)) else 0) (max t.length (m + 1)) = sumN (fun k => if (decide ((k : Int) ≤ (m : Int))) = true then gi t (k : Int) * gi row ((m : Int) - (k : Int)) else 0) t.length := sumN_more (by omega) fun i h _ => by
    rw [gi_out h, Int.zero_mul]
    split <;> rfl
  have b : sumN (fun k => if (decide ((k : Int) ≤ (m : Int))) = true then gi t (k : Int) * gi row ((m : Int) - (k : Int)) else 0) (max t.length (m + 1)) = sumN (fun k => if (decide ((k : Int) ≤ (m : Int))) = true then gi t (k : Int) * gi row ((m : Int) - (k : Int)) else 0) (m + 1) := sumN_more (by omega) fun i h _ => if_neg (by rw [decide_eq_true_eq]; omega)
  rw [← a, b]
  unfold flt
  refine sumN_congr fun k hk => ?_
  rw [if_pos (by rw [decide_eq_true_eq]; omega), show (m : Int) - (k : Int) = ((m - k : Nat) : Int) by omega]
end RF

namespace RF
/-! ### weights -/
def papF (t : List Int) (m : Nat) (scale p : Int) (k i : Nat) : Int := if i ≤ m ∧ m - i < k then gi t ((m - i : Nat) : Int) * scale % p else 0
def paperL (p : Int) (N : Nat) (t : List Int) (m : Nat) (scale : Int) : List Int := tab N (papF t m scale p t.length)
theorem paper_nums {p : Int} (hp : 0 < p) (N : Nat) (t : List Int) (m : Nat) (scale : Int) : Nums p (paperL p N t m scale) := tab_nums fun i _ => by
  unfold papF
  split
  · exact ⟨Int.emod_nonneg _ (by omega), Int.emod_lt_of_pos _ hp⟩
  · exact ⟨Int.le_refl 0, hp⟩
theorem paper_sum {p : Int} {row t : List Int} {m lo j N : Nat} (scale : Int) (h1 : t.length + lo ≤ m + 1) (h2 : j ≤ lo) (h3 : m < N) :
    Cg p (sumN (fun i => gi (paperL p N t m scale) ((lo + i : Nat) : Int) * gi row ((lo + i - j : Nat) : Int)) (N - lo)) (scale * flt row t (m - j)) := by
  have e0 : sumN (fun i => gi (paperL p N t m scale) ((lo + i : Nat) : Int) * gi row ((lo + i - j : Nat) : Int)) (N - lo) = sumN (fun i => gi (paperL p N t m scale) ((lo + i : Nat) : Int) * gi row ((lo + i - j : Nat) : Int)) (m + 1 - lo) := sumN_more (by omega) fun i a b => by
    unfold paperL
    rw [tab_gi (by omega)]
    unfold papF
    rw [if_neg (by omega), Int.zero_mul]
  rw [e0, sumN_rev, flt_len (m := m + 1 - lo) (by omega) (by omega), ← sumN_mul]
  refine Cg.sum fun i hi => ?_
  rw [show lo + (m + 1 - lo - 1 - i) = m - i by omega, show m - j - i = m - i - j by omega]
  unfold paperL
  rw [tab_gi (by omega)]
  unfold papF
  by_cases z : i < t.length
  · rw [if_pos (by omega), show m - (m - i) = i by omega]
    refine ((Cg.emod p _).mul (Cg.refl p _)).trans (Cg.of_eq (by grind))
  · rw [if_neg (by omega), gi_out (ns := t) (by omega)]
    exact Cg.of_eq (by grind)
theorem paper_low {p : Int} {t : List Int} {m N i : Nat} (scale : Int) (h : i < N) (h1 : t.length + i ≤ m) : gi (paperL p N t m scale) (i : Int) = 0 := by
  unfold paperL
  rw [tab_gi h]
  unfold papF
  rw [if_neg (by omega)]
/-! ### rows that go on alike -/
theorem next_all (p : Int) (row rule : List Int) (hl : rule.length ≤ row.length) : nextOf p row rule = sumN (fun k => gi rule (k : Int) * gi row ((row.length - 1 - k : Nat) : Int)) rule.length % p :=
  nextOf_sum p row rule (fun n => gi row (n : Int)) row.length rfl hl fun n _ => rfl
theorem Goes.take {p : Int} {row rule : List Int} (h : Goes p row rule) (m : Nat) : Goes p (row.take m) rule := fun n h1 h2 => by
  rw [List.length_take] at h2
  rw [gi_take (by omega)]
  refine (h n h1 (by omega)).trans (Cg.of_eq (sumN_congr fun k hk => ?_))
  rw [gi_take (by omega)]
theorem Goes.snoc {p : Int} {row rule : List Int} (h : Goes p row rule) (hl : rule.length ≤ row.length) {y : Int} (hy : Cg p y (sumN (fun k => gi rule (k : Int) * gi row ((row.length - 1 - k : Nat) : Int)) rule.length)) : Goes p (row ++ [y]) rule := fun n h1 h2 => by
  rw [List.length_append, List.length_singleton] at h2
  have e : sumN (fun k => gi rule (k : Int) * gi (row ++ [y]) ((n - 1 - k : Nat) : Int)) rule.length = sumN (fun k => gi rule (k : Int) * gi row ((n - 1 - k : Nat) : Int)) rule.length := sumN_congr fun k hk => by rw [gi_append_left (by omega)]
  rw [e]
  by_cases z : n < row.length
  · rw [gi_append_left z]
    exact h n h1 z
  · have e2 : n = row.length := by omega
    subst e2
    rw [gi_snoc]
    exact hy
theorem Goes.next {p : Int} {row rule : List Int} (h : Goes p row rule) (hl : rule.length ≤ row.length) : Goes p (row ++ [nextOf p row rule]) rule := h.snoc hl (by
  rw [next_all p row rule hl]
  exact Cg.emod p _)
theorem Goes.onBy {p : Int} {row rule : List Int} (h : Goes p row rule) (hl : rule.length ≤ row.length) : ∀ k, Goes p (onBy p rule row k) rule
  | 0 => h
  | k + 1 => (Goes.onBy h hl k).next (by rw [onBy_len]; omega)
theorem goes_short {p : Int} {row rule : List Int} (h : row.length ≤ rule.length) : Goes p row rule := fun n h1 h2 => by omega
theorem goes_double {p : Int} {row c d : List Int} (hc : Goes p row c) (hd : Goes p row d) (hl : c.length + d.length ≤ row.length) :
    Cg p (sumN (fun k => gi c (k : Int) * gi row ((row.length - 1 - k : Nat) : Int)) c.length) (sumN (fun k => gi c (k : Int) * sumN (fun i => gi d (i : Int) * gi row ((row.length - 2 - k - i : Nat) : Int)) d.length) c.length) := Cg.sum fun k hk => Cg.mul_left _ (by
  have h := hd (row.length - 1 - k) (by omega) (by omega)
  refine h.trans (Cg.of_eq (sumN_congr fun i hi => ?_))
  rw [show row.length - 1 - k - 1 - i = row.length - 2 - k - i by omega])
theorem goes_alike {p : Int} {row c d : List Int} (hc : Goes p row c) (hd : Goes p row d) (hl : c.length + d.length ≤ row.length) : nextOf p row c = nextOf p row d := by
  rw [next_all p row c (by omega), next_all p row d (by omega)]
  refine Cg.eq (Cg.trans (goes_double hc hd hl) (Cg.trans (Cg.of_eq ?_) (goes_double hd hc (by omega)).symm))
  have e1 : sumN (fun k => gi c (k : Int) * sumN (fun i => gi d (i : Int) * gi row ((row.length - 2 - k - i : Nat) : Int)) d.length) c.length = sumN (fun k => sumN (fun i => gi c (k : Int) * (gi d (i : Int) * gi row ((row.length - 2 - k - i : Nat) : Int))) d.length) c.length := sumN_congr fun k hk => (sumN_mul _ _ _).symm
  have e2 : sumN (fun k => gi d (k : Int) * sumN (fun i => gi c (i : Int) * gi row ((row.length - 2 - k - i : Nat) : Int)) c.length) d.length = sumN (fun k => sumN (fun i => gi d (k : Int) * (gi c (i : Int) * gi row ((row.length - 2 - k - i : Nat) : Int))) c.length) d.length := sumN_congr fun k hk => (sumN_mul _ _ _).symm
  rw [e1, e2, sumN_swap]
  refine sumN_congr fun k hk => sumN_congr fun i hi => ?_
  rw [show row.length - 2 - i - k = row.length - 2 - k - i by omega]
  grind
theorem onBy_alike {p : Int} {row c d : List Int} (hc : Goes p row c) (hd : Goes p row d) (hl : c.length + d.length ≤ row.length) : ∀ k, onBy p c row k = onBy p d row k
  | 0 => rfl
  | k + 1 => by
    have h := onBy_alike hc hd hl k
    show onBy p c row k ++ [nextOf p (onBy p c row k) c] = onBy p d row k ++ [nextOf p (onBy p d row k) d]
    have a := hc.onBy (by omega) k
    have b := hd.onBy (by omega) k
    rw [← h] at b ⊢
    rw [goes_alike a b (by rw [onBy_len]; omega)]
/-! ### sums of rows go by the joined rule -/
theorem sumN_tri (F : Nat → Nat → Int) : ∀ M, sumN (fun i => sumN (fun j => F i j) i) M = sumN (fun j => sumN (fun k => F (j + k + 1) j) (M - 1 - j)) M
  | 0 => rfl
  | M + 1 => by
    show sumN (fun i => sumN (fun j => F i j) i) M + sumN (fun j => F M j) M = sumN (fun j => sumN (fun k => F (j + k + 1) j) (M + 1 - 1 - j)) M + sumN (fun k => F (M + k + 1) M) (M + 1 - 1 - M)
    rw [sumN_tri F M, show M + 1 - 1 - M = 0 by omega]
    show _ = _ + 0
    rw [Int.add_zero, ← sumN_add]
    refine sumN_congr fun j hj => ?_
    rw [show M + 1 - 1 - j = (M - 1 - j) + 1 by omega]
    show _ = sumN _ (M - 1 - j) + F (j + (M - 1 - j) + 1) j
    rw [show j + (M - 1 - j) + 1 = M by omega]
theorem conv_sum (c d : List Int) (g : Nat → Int) {M : Nat} (hM : M = c.length + d.length) : sumN (fun i => conv c d i * g i) M = sumN (fun j => gi c (j : Int) * sumN (fun k => gi d (k : Int) * g (j + k + 1)) d.length) c.length := by
  have e1 : sumN (fun i => conv c d i * g i) M = sumN (fun i => sumN (fun j => gi c (j : Int) * gi d ((i - 1 - j : Nat) : Int) * g i) i) M := sumN_congr fun i hi => by
    unfold conv
    rw [Int.mul_comm, ← sumN_mul]
    exact sumN_congr fun j hj => by grind
  rw [e1, sumN_tri fun i j => gi c (j : Int) * gi d ((i - 1 - j : Nat) : Int) * g i]
  have e2 : sumN (fun j => sumN (fun k => gi c (j : Int) * gi d ((j + k + 1 - 1 - j : Nat) : Int) * g (j + k + 1)) (M - 1 - j)) M = sumN (fun j => sumN (fun k => gi c (j : Int) * gi d ((j + k + 1 - 1 - j : Nat) : Int) * g (j + k + 1)) (M - 1 - j)) c.length := sumN_more (by omega) fun j h1 _ => sumN_zero fun k _ => by rw [gi_out h1, Int.zero_mul, Int.zero_mul]
  rw [e2]
  refine sumN_congr fun j hj => ?_
  rw [← sumN_mul]
  have e3 : sumN (fun k => gi c (j : Int) * gi d ((j + k + 1 - 1 - j : Nat) : Int) * g (j + k + 1)) (M - 1 - j) = sumN (fun k => gi c (j : Int) * gi d ((j + k + 1 - 1 - j : Nat) : Int) * g (j + k + 1)) d.length := sumN_more (by omega) fun k h1 _ => by rw [show j + k + 1 - 1 - j = k by omega, gi_out (ns := d) h1, Int.mul_zero, Int.zero_mul]
  rw [e3]
  refine sumN_congr fun k hk => ?_
  rw [show j + k + 1 - 1 - j = k by omega, Int.mul_assoc]
theorem conv_comm_fun (c d : List Int) {g : Nat → Int} {M : Nat} : sumN (fun i => conv c d i * g i) M = sumN (fun i => conv d c i * g i) M := sumN_congr fun i _ => by rw [conv_comm]
theorem sum_out {c : List Int} {M : Nat} (g : Nat → Int) (h : c.length ≤ M) : sumN (fun i => gi c (i : Int) * g i) M = sumN (fun i => gi c (i : Int) * g i) c.length := sumN_more h fun i h1 _ => by rw [gi_out h1, Int.zero_mul]
theorem Goes.joined {p : Int} {row c : List Int} (h : Goes p row c) (d : List Int) : Goes p row (joinedL p c d) := fun n h1 h2 => by
  have hl : (joinedL p c d).length = c.length + d.length := tab_len _ _
  rw [hl] at h1 ⊢
  have a : Cg p (sumN (fun k => gi (joinedL p c d) (k : Int) * gi row ((n - 1 - k : Nat) : Int)) (c.length + d.length)) (sumN (fun k => (gi c (k : Int) * gi row ((n - 1 - k : Nat) : Int) + gi d (k : Int) * gi row ((n - 1 - k : Nat) : Int)) - conv c d k * gi row ((n - 1 - k : Nat) : Int)) (c.length + d.length)) := Cg.sum fun k hk => by
    unfold joinedL
    rw [tab_gi hk]
    refine ((Cg.emod p _).mul (Cg.refl p _)).trans (Cg.of_eq (by grind))
  rw [sumN_sub, sumN_add, sum_out (c := c) (fun k => gi row ((n - 1 - k : Nat) : Int)) (by omega), sum_out (c := d) (fun k => gi row ((n - 1 - k : Nat) : Int)) (by omega), conv_comm_fun c d, conv_sum d c (fun k => gi row ((n - 1 - k : Nat) : Int)) (by omega)] at a
  have b : Cg p (sumN (fun j => gi d (j : Int) * sumN (fun k => gi c (k : Int) * gi row ((n - 1 - (j + k + 1) : Nat) : Int)) c.length) d.length) (sumN (fun j => gi d (j : Int) * gi row ((n - 1 - j : Nat) : Int)) d.length) := Cg.sum fun j hj => Cg.mul_left _ (by
    have z := h (n - 1 - j) (by omega) (by omega)
    refine (z.trans (Cg.of_eq (sumN_congr fun k hk => ?_))).symm
    rw [show n - 1 - j - 1 - k = n - 1 - (j + k + 1) by omega])
  have e := h n (by omega) h2
  have f := a.trans ((e.symm.add (Cg.refl p (sumN (fun j => gi d (j : Int) * gi row ((n - 1 - j : Nat) : Int)) d.length))).sub b)
  exact (f.trans (Cg.of_eq (by omega))).symm
theorem Goes.sum {p : Int} {a b r c : List Int} (ha : Goes p a c) (hb : Goes p b c) (l1 : r.length ≤ a.length) (l2 : r.length ≤ b.length) (h : ∀ n, n < r.length → Cg p (gi r (n : Int)) (gi a (n : Int) + gi b (n : Int))) : Goes p r c := fun n h1 h2 => by
  refine (h n h2).trans (((ha n h1 (by omega)).add (hb n h1 (by omega))).trans ?_)
  rw [← sumN_add]
  refine Cg.symm (Cg.sum fun k hk => ?_)
  exact (Cg.mul_left _ (h (n - 1 - k) (by omega))).trans (Cg.of_eq (by grind))
theorem Goes.scale {p : Int} {a r c : List Int} (z : Int) (ha : Goes p a c) (l1 : r.length ≤ a.length) (h : ∀ n, n < r.length → Cg p (gi r (n : Int)) (gi a (n : Int) * z)) : Goes p r c := fun n h1 h2 => by
  refine (h n h2).trans (((ha n h1 (by omega)).mul (Cg.refl p z)).trans ?_)
  rw [Int.mul_comm, ← sumN_mul]
  refine Cg.symm (Cg.sum fun k hk => ?_)
  exact (Cg.mul_left _ (h (n - 1 - k) (by omega))).trans (Cg.of_eq (by grind))
end RF
namespace RF
theorem longs_take (p : Int) (row : List Int) {m : Nat} (h : m ≤ row.length) : longsL p (row.take m) m = (longsL p row row.length).take (m + 1) := by
  refine gi_ext (by rw [longs_len, List.length_take, longs_len]; omega) fun j hj => ?_
  rw [List.length_take, longs_len] at hj
  rw [gi_take (by omega), longs_gi p row (by omega), longs_gi p _ (by omega), bm_take p row m j (by omega)]
end RF

namespace RF
/-! ### rules turned -/
def lastI (ns : List Int) : Int := gi ns ((ns.length : Int) - 1)
theorem lastI_gi {ns : List Int} (h : 1 ≤ ns.length) : lastI ns = gi ns ((ns.length - 1 : Nat) : Int) := by
  unfold lastI
  rw [show (ns.length : Int) - 1 = ((ns.length - 1 : Nat) : Int) by omega]
def turnL (p : Int) (rule : List Int) : List Int := if rule.length = 0 then [] else ((rule.take (rule.length - 1)).reverse.map fun x => (0 - x * invP p (lastI rule)) % p) ++ [invP p (lastI rule)]
theorem turn_len (p : Int) (rule : List Int) : (turnL p rule).length = rule.length := by
  unfold turnL
  split
  · rw [List.length_nil]
    omega
  · rw [List.length_append, List.length_map, List.length_reverse, List.length_take, List.length_singleton]
    omega
theorem turn_gi {p : Int} {rule : List Int} {i : Nat} (h : i + 1 < rule.length) : gi (turnL p rule) (i : Int) = (0 - gi rule ((rule.length - 2 - i : Nat) : Int) * invP p (lastI rule)) % p := by
  unfold turnL
  rw [if_neg (by omega), gi_append_left (by rw [List.length_map, List.length_reverse, List.length_take]; omega), gi_lt (by rw [List.length_map, List.length_reverse, List.length_take]; omega), List.getElem_map, List.getElem_reverse, List.getElem_take, gi_lt (by omega)]
  congr 3
  congr 1
  rw [List.length_take]
  omega
theorem turn_last {p : Int} {rule : List Int} (h : 1 ≤ rule.length) : gi (turnL p rule) ((rule.length - 1 : Nat) : Int) = invP p (lastI rule) := by
  unfold turnL
  rw [if_neg (by omega), gi_append_right (by rw [List.length_map, List.length_reverse, List.length_take]; omega)]
  rw [List.length_map, List.length_reverse, List.length_take, show rule.length - 1 - min (rule.length - 1) rule.length = 0 by omega]
  rfl
theorem turn_nums {p : Int} (hp : 2 ≤ p) (rule : List Int) : Nums p (turnL p rule) := by
  unfold turnL
  split
  · exact Nums.nil
  · refine Nums.append (fun x hx => ?_) (Nums.one (invP_bounds _ hp).1 (invP_bounds _ hp).2)
    rw [List.mem_map] at hx
    obtain ⟨y, _, rfl⟩ := hx
    exact ⟨Int.emod_nonneg _ (by omega), Int.emod_lt_of_pos _ (by omega)⟩
theorem rev_gi {row : List Int} {m : Nat} (h : m < row.length) : gi row.reverse (m : Int) = gi row ((row.length - 1 - m : Nat) : Int) := by
  rw [gi_lt (by rw [List.length_reverse]; exact h), List.getElem_reverse, gi_lt (by omega)]
/-- the turned one at a place -/
theorem turn_sum {p : Int} {row rule : List Int} {n : Nat} (h1 : 1 ≤ rule.length) (h2 : rule.length ≤ n) (h3 : n < row.length) :
    Cg p (sumN (fun k => gi (turnL p rule) (k : Int) * gi row.reverse ((row.length - 1 - n + rule.length - 1 - k : Nat) : Int)) rule.length) (invP p (lastI rule) * (gi row (n : Int) - sumN (fun k => gi rule (k : Int) * gi row ((n - 1 - k : Nat) : Int)) (rule.length - 1))) := by
  obtain ⟨l, hl⟩ : ∃ l, rule.length = l + 1 := ⟨rule.length - 1, by omega⟩
  rw [hl, show l + 1 - 1 = l by omega]
  show Cg p (sumN _ l + gi (turnL p rule) (l : Int) * gi row.reverse ((row.length - 1 - n + (l + 1) - 1 - l : Nat) : Int)) _
  have e1 : gi (turnL p rule) (l : Int) = invP p (lastI rule) := by
    have := turn_last (p := p) h1
    rw [hl, show l + 1 - 1 = l by omega] at this
    exact this
  rw [e1, show row.length - 1 - n + (l + 1) - 1 - l = row.length - 1 - n by omega, rev_gi (by omega), show row.length - 1 - (row.length - 1 - n) = n by omega]
  have a : Cg p (sumN (fun k => gi (turnL p rule) (k : Int) * gi row.reverse ((row.length - 1 - n + (l + 1) - 1 - k : Nat) : Int)) l) (sumN (fun k => (-invP p (lastI rule)) * (gi rule ((l - 1 - k : Nat) : Int) * gi row ((n - 1 - (l - 1 - k) : Nat) : Int))) l) := Cg.sum fun k hk => by
    rw [turn_gi (by omega), rev_gi (by omega), hl, show row.length - 1 - (row.length - 1 - n + (l + 1) - 1 - k) = n - 1 - (l - 1 - k) by omega, show l + 1 - 2 - k = l - 1 - k by omega]
    refine ((Cg.emod p _).mul (Cg.refl p _)).trans (Cg.of_eq (by grind))
  rw [sumN_mul, ← sumN_rev fun k => gi rule (k : Int) * gi row ((n - 1 - k : Nat) : Int)] at a
  refine (a.add (Cg.refl p _)).trans (Cg.of_eq (by grind))
theorem turn_inv {p : Int} (hp : p ∈ primes) {rule : List Int} (hn : Nums p rule) (h1 : 1 ≤ rule.length) (h0 : lastI rule ≠ 0) : Cg p (invP p (lastI rule) * lastI rule) 1 := by
  have b := gi_nums hn (i := ((rule.length - 1 : Nat) : Int)) (by omega) (by omega)
  rw [← lastI_gi h1] at b
  exact primes_inv hp (by omega) b.2
theorem turn_goes {p : Int} (hp : p ∈ primes) {row rule : List Int} (hn : Nums p rule) (h0 : rule.length = 0 ∨ lastI rule ≠ 0) : Goes p row.reverse (turnL p rule) ↔ Goes p row rule := by
  by_cases hz : rule.length = 0
  · have e1 : turnL p rule = [] := by
      unfold turnL
      rw [if_pos hz]
    have e2 : rule = [] := List.length_eq_zero_iff.mp hz
    subst e2
    rw [e1]
    constructor
    · intro h n _ h2
      have := h (row.length - 1 - n) (Nat.zero_le _) (by rw [List.length_reverse]; omega)
      rw [rev_gi (by omega), show row.length - 1 - (row.length - 1 - n) = n by omega] at this
      exact this
    · intro h n _ h2
      rw [List.length_reverse] at h2
      rw [rev_gi h2]
      exact h _ (Nat.zero_le _) (by omega)
  have h1 : 1 ≤ rule.length := by omega
  have hlast : lastI rule ≠ 0 := h0.resolve_left hz
  have hi := turn_inv hp hn h1 hlast
  -- the rule at a place
  have ruleAt : ∀ n, rule.length ≤ n → sumN (fun k => gi rule (k : Int) * gi row ((n - 1 - k : Nat) : Int)) rule.length = sumN (fun k => gi rule (k : Int) * gi row ((n - 1 - k : Nat) : Int)) (rule.length - 1) + lastI rule * gi row ((n - rule.length : Nat) : Int) := fun n hn => by
    obtain ⟨l, hl⟩ : ∃ l, rule.length = l + 1 := ⟨rule.length - 1, by omega⟩
    rw [lastI_gi h1, hl, show l + 1 - 1 = l by omega]
    show sumN _ l + _ = _
    rw [show n - (l + 1) = n - 1 - l by omega]
  constructor
  · intro h n h2 h3
    have a := h (row.length - 1 - n + rule.length) (by rw [turn_len]; omega) (by rw [List.length_reverse]; omega)
    rw [turn_len, rev_gi (by omega), show row.length - 1 - (row.length - 1 - n + rule.length) = n - rule.length by omega] at a
    have b := a.trans (turn_sum h1 h2 h3)
    rw [ruleAt n h2]
    have c := Cg.mul_left (lastI rule) b
    have d : Cg p (lastI rule * (invP p (lastI rule) * (gi row (n : Int) - sumN (fun k => gi rule (k : Int) * gi row ((n - 1 - k : Nat) : Int)) (rule.length - 1)))) (gi row (n : Int) - sumN (fun k => gi rule (k : Int) * gi row ((n - 1 - k : Nat) : Int)) (rule.length - 1)) := by
      have z := hi.mul (Cg.refl p (gi row (n : Int) - sumN (fun k => gi rule (k : Int) * gi row ((n - 1 - k : Nat) : Int)) (rule.length - 1)))
      exact (Cg.of_eq (by grind)).trans (z.trans (Cg.of_eq (by omega)))
    have e := (Cg.refl p (sumN (fun k => gi rule (k : Int) * gi row ((n - 1 - k : Nat) : Int)) (rule.length - 1))).add (c.trans d)
    exact (e.trans (Cg.of_eq (by omega))).symm
  · intro h m h2 h3
    rw [turn_len] at h2 ⊢
    rw [List.length_reverse] at h3
    obtain ⟨n, hn1, hn2, hn3⟩ : ∃ n, m = row.length - 1 - n + rule.length ∧ rule.length ≤ n ∧ n < row.length := ⟨row.length - 1 - (m - rule.length), by omega, by omega, by omega⟩
    subst hn1
    rw [rev_gi h3, show row.length - 1 - (row.length - 1 - n + rule.length) = n - rule.length by omega]
    refine Cg.trans ?_ (turn_sum h1 hn2 hn3).symm
    have a := h n hn2 hn3
    rw [ruleAt n hn2] at a
    have b := Cg.mul_left (invP p (lastI rule)) (a.sub (Cg.refl p (sumN (fun k => gi rule (k : Int) * gi row ((n - 1 - k : Nat) : Int)) (rule.length - 1))))
    have c := hi.mul (Cg.refl p (gi row ((n - rule.length : Nat) : Int)))
    refine Cg.symm (b.trans ((Cg.of_eq ?_).trans (c.trans (Cg.of_eq ?_))))
    · grind
    · omega
theorem turn_turn {p : Int} (hp : p ∈ primes) {rule : List Int} (hn : Nums p rule) (h0 : rule.length = 0 ∨ lastI rule ≠ 0) : turnL p (turnL p rule) = rule := by
  have hpl := primes_le p hp
  by_cases hz : rule.length = 0
  · have e2 : rule = [] := List.length_eq_zero_iff.mp hz
    subst e2
    rfl
  have h1 : 1 ≤ rule.length := by omega
  have hlast : lastI rule ≠ 0 := h0.resolve_left hz
  have hi := turn_inv hp hn h1 hlast
  have tl := turn_len p rule
  have tn := turn_nums hpl.1 rule
  have sl : lastI (turnL p rule) = invP p (lastI rule) := by
    rw [lastI_gi (by omega), tl]
    exact turn_last h1
  have ib := invP_bounds (p := p) (lastI rule) hpl.1
  have s0 : lastI (turnL p rule) ≠ 0 := fun z => by
    rw [sl] at z
    rw [z, Int.zero_mul] at hi
    have := hi.eq_of ⟨Int.le_refl 0, by omega⟩ ⟨by omega, by omega⟩
    omega
  have hi2 := turn_inv hp tn (by omega) s0
  have lb := gi_nums hn (i := ((rule.length - 1 : Nat) : Int)) (by omega) (by omega)
  rw [← lastI_gi h1] at lb
  have ib2 := invP_bounds (p := p) (lastI (turnL p rule)) hpl.1
  have s2 : invP p (lastI (turnL p rule)) = lastI rule := by
    refine Cg.eq_of ?_ ib2 lb
    rw [sl] at hi2 ⊢
    have a := Cg.mul_left (invP p (invP p (lastI rule))) hi
    have b := hi2.mul (Cg.refl p (lastI rule))
    exact (Cg.of_eq (by omega)).trans (a.symm.trans ((Cg.of_eq (by grind)).trans (b.trans (Cg.of_eq (by omega)))))
  refine gi_ext (by rw [turn_len, turn_len]) fun j hj => ?_
  have jb := gi_nums hn (i := (j : Int)) (by omega) (by omega)
  by_cases z : j + 1 < rule.length
  · rw [turn_gi (by omega), s2, tl, turn_gi (by omega), show rule.length - 2 - (rule.length - 2 - j) = j by omega]
    have a : Cg p (0 - (0 - gi rule (j : Int) * invP p (lastI rule)) % p * lastI rule) (gi rule (j : Int)) := by
      have b := (Cg.refl p 0).sub ((Cg.emod p (0 - gi rule (j : Int) * invP p (lastI rule))).mul (Cg.refl p (lastI rule)))
      have c := Cg.mul_left (gi rule (j : Int)) hi
      exact b.trans ((Cg.of_eq (by grind)).trans (c.trans (Cg.of_eq (by omega))))
    have d := a.eq
    rw [Int.emod_eq_of_lt jb.1 jb.2] at d
    exact d
  · have e : j = rule.length - 1 := by omega
    have := turn_last (p := p) (rule := turnL p rule) (by omega)
    rw [tl, s2] at this
    rw [e, this, lastI_gi h1]
end RF

namespace RF
/-! ### when a row comes round -/
def pw (p : Int) : Nat → Int
  | 0 => 1
  | n + 1 => pw p n * p
theorem pw_pos {p : Int} (hp : 1 ≤ p) : ∀ n, 1 ≤ pw p n
  | 0 => Int.le_refl 1
  | n + 1 => by
    have h := pw_pos hp n
    have := Int.mul_le_mul (a := 1) (b := 1) h hp (by omega) (by omega)
    show 1 ≤ pw p n * p
    omega
theorem pw_step {p : Int} (hp : 1 ≤ p) (n : Nat) : pw p n ≤ pw p (n + 1) := by
  have h := pw_pos hp n
  have := Int.mul_le_mul_of_nonneg_left hp (show 0 ≤ pw p n by omega)
  show pw p n ≤ pw p n * p
  omega
theorem pw_mono {p : Int} (hp : 1 ≤ p) {n m : Nat} (h : n ≤ m) : pw p n ≤ pw p m := by
  induction m with
  | zero =>
    have : n = 0 := by omega
    subst this
    exact Int.le_refl _
  | succ m ih =>
    by_cases e : n = m + 1
    · subst e
      exact Int.le_refl _
    · exact Int.le_trans (ih (by omega)) (pw_step hp m)
theorem pw_grows {p : Int} (hp : 2 ≤ p) : ∀ n : Nat, (n : Int) + 1 ≤ pw p n
  | 0 => Int.le_refl 1
  | n + 1 => by
    have h := pw_grows hp n
    have := Int.mul_le_mul_of_nonneg_left hp (show 0 ≤ pw p n by omega)
    show ((n + 1 : Nat) : Int) + 1 ≤ pw p n * p
    omega
/-- drawers -/
theorem php : ∀ (N : Nat) (f : Nat → Nat), (∀ i, i ≤ N → f i < N) → ∃ i j, i < j ∧ j ≤ N ∧ f i = f j
  | 0, f, h => absurd (h 0 (Nat.le_refl 0)) (Nat.not_lt_zero _)
  | N + 1, f, h => by
    by_cases z : ∃ i, i ≤ N ∧ f i = f (N + 1)
    · obtain ⟨i, h1, h2⟩ := z
      exact ⟨i, N + 1, by omega, Nat.le_refl _, h2⟩
    · have hne : ∀ i, i ≤ N → f i ≠ f (N + 1) := fun i hi e => z ⟨i, hi, e⟩
      have hv := h (N + 1) (Nat.le_refl _)
      obtain ⟨i, j, h1, h2, h3⟩ := php N (fun i => if f i > f (N + 1) then f i - 1 else f i) (fun i hi => by
        have a := h i (by omega)
        have b := hne i hi
        show (if f i > f (N + 1) then f i - 1 else f i) < N
        split <;> omega)
      refine ⟨i, j, h1, by omega, ?_⟩
      have a := hne i (by omega)
      have b := hne j h2
      have h3 : (if f i > f (N + 1) then f i - 1 else f i) = (if f j > f (N + 1) then f j - 1 else f j) := h3
      split at h3 <;> split at h3 <;> omega
def enc (p : Nat) : List Int → Nat
  | [] => 0
  | x :: xs => x.toNat + p * enc p xs
theorem enc_lt {p : Nat} (hp : 1 ≤ p) : ∀ ns : List Int, Nums (p : Int) ns → ((enc p ns : Nat) : Int) < pw (p : Int) ns.length
  | [], _ => by show (0 : Int) < 1; omega
  | x :: xs, h => by
    have ih := enc_lt hp xs fun y hy => h y (List.mem_cons_of_mem _ hy)
    have hx := h x (List.mem_cons_self ..)
    show ((x.toNat + p * enc p xs : Nat) : Int) < pw (p : Int) xs.length * (p : Int)
    have a : (p : Int) * (((enc p xs : Nat) : Int) + 1) ≤ (p : Int) * pw (p : Int) xs.length := Int.mul_le_mul_of_nonneg_left (by omega) (by omega)
    rw [Int.mul_comm (pw (p : Int) xs.length) (p : Int)]
    have b : (p : Int) * (((enc p xs : Nat) : Int) + 1) = (p : Int) * ((enc p xs : Nat) : Int) + (p : Int) := by grind
    have c : ((x.toNat + p * enc p xs : Nat) : Int) = x + (p : Int) * ((enc p xs : Nat) : Int) := by
      rw [Int.natCast_add, Int.natCast_mul, Int.toNat_of_nonneg hx.1]
    omega
theorem enc_inj {p : Nat} : ∀ ns ms : List Int, Nums (p : Int) ns → Nums (p : Int) ms → ns.length = ms.length → enc p ns = enc p ms → ns = ms
  | [], [], _, _, _, _ => rfl
  | [], _ :: _, _, _, h, _ => by simp at h
  | _ :: _, [], _, _, h, _ => by simp at h
  | x :: xs, y :: ys, h1, h2, h3, h4 => by
    have hx := h1 x (List.mem_cons_self ..)
    have hy := h2 y (List.mem_cons_self ..)
    have h4 : x.toNat + p * enc p xs = y.toNat + p * enc p ys := h4
    have xl : x.toNat < p := by omega
    have yl : y.toNat < p := by omega
    have e1 : x.toNat = y.toNat := by
      have a := congrArg (· % p) h4
      have a : (x.toNat + p * enc p xs) % p = (y.toNat + p * enc p ys) % p := a
      rw [Nat.add_mul_mod_self_left, Nat.add_mul_mod_self_left, Nat.mod_eq_of_lt xl, Nat.mod_eq_of_lt yl] at a
      exact a
    have e2 : p * enc p xs = p * enc p ys := by omega
    have e3 : enc p xs = enc p ys := Nat.eq_of_mul_eq_mul_left (by omega) e2
    have e4 : x = y := by omega
    rw [e4, enc_inj xs ys (fun z hz => h1 z (List.mem_cons_of_mem _ hz)) (fun z hz => h2 z (List.mem_cons_of_mem _ hz)) (by
      have h3 : xs.length + 1 = ys.length + 1 := h3
      omega) e3]
theorem least_one (P : Nat → Prop) : ∀ n, 1 ≤ n → P n → ∃ r, 1 ≤ r ∧ r ≤ n ∧ P r ∧ ∀ m, 1 ≤ m → m < r → ¬ P m := by
  intro n
  induction n using Nat.strongRecOn with
  | ind n ih =>
    intro h1 hp
    by_cases z : ∃ m, 1 ≤ m ∧ m < n ∧ P m
    · obtain ⟨m, a, b, c⟩ := z
      obtain ⟨r, d, e, f, g⟩ := ih m b a c
      exact ⟨r, d, by omega, f, g⟩
    · exact ⟨n, h1, Nat.le_refl n, hp, fun m a b c => z ⟨m, a, b, c⟩⟩
/-- what stands in the window -/
def stW (p : Int) (rule begin : List Int) (k : Nat) : List Int := tab rule.length fun j => seqF p rule begin (k + j)
theorem stW_len (p : Int) (rule begin : List Int) (k : Nat) : (stW p rule begin k).length = rule.length := tab_len _ _
theorem stW_gi (p : Int) {rule : List Int} (begin : List Int) (k : Nat) {j : Nat} (h : j < rule.length) : gi (stW p rule begin k) (j : Int) = seqF p rule begin (k + j) := tab_gi h
theorem stW_nums {p : Int} (hp : 0 < p) {rule begin : List Int} (hb : Nums p begin) (k : Nat) : Nums p (stW p rule begin k) := tab_nums fun i _ => seqF_nums hp hb _
theorem stW_0 {p : Int} {rule begin : List Int} (hl : begin.length = rule.length) : stW p rule begin 0 = begin := gi_ext (by rw [stW_len, hl]) fun j hj => by
  rw [stW_gi p begin 0 (by omega), Nat.zero_add, seqF_begin hj]
theorem stW_step {p : Int} {rule begin : List Int} (hl : begin.length = rule.length) (k : Nat) : (stW p rule begin k ++ [nextOf p (stW p rule begin k) rule]).drop 1 = stW p rule begin (k + 1) := by
  refine gi_ext (by rw [List.length_drop, List.length_append, stW_len, stW_len, List.length_singleton]; omega) fun j hj => ?_
  rw [stW_len] at hj
  rw [stW_gi p begin (k + 1) hj]
  have e : gi ((stW p rule begin k ++ [nextOf p (stW p rule begin k) rule]).drop 1) (j : Int) = gi (stW p rule begin k ++ [nextOf p (stW p rule begin k) rule]) ((j + 1 : Nat) : Int) := by
    rw [gi_nat, gi_nat, List.getD_eq_getElem?_getD, List.getD_eq_getElem?_getD, List.getElem?_drop, Nat.add_comm 1 j]
  rw [e]
  by_cases z : j + 1 < rule.length
  · rw [gi_append_left (by rw [stW_len]; exact z), stW_gi p begin k z, show k + 1 + j = k + (j + 1) by omega]
  · rw [gi_append_right (by rw [stW_len]; omega), stW_len, show j + 1 - rule.length = 0 by omega]
    show nextOf p (stW p rule begin k) rule = _
    rw [nextOf_sum p _ rule (fun i => seqF p rule begin (k + i)) rule.length (stW_len _ _ _ _) (Nat.le_refl _) fun n hn => stW_gi p begin k hn, seqF_next (n := k + 1 + j) (by omega) (by omega)]
    congr 1
    refine sumN_congr fun i hi => ?_
    rw [show k + 1 + j - 1 - i = k + (rule.length - 1 - i) by omega]
theorem stW_back {p : Int} (hp : p ∈ primes) {rule begin : List Int} (hn : Nums p rule) (hb : Nums p begin) (hl : begin.length = rule.length) (h0 : rule.length = 0 ∨ lastI rule ≠ 0) {i j : Nat}
    (h : stW p rule begin (i + 1) = stW p rule begin (j + 1)) : stW p rule begin i = stW p rule begin j := by
  have hpl := primes_le p hp
  refine gi_ext (by rw [stW_len, stW_len]) fun k hk => ?_
  rw [stW_len] at hk
  have H : ∀ m, m < rule.length → seqF p rule begin (i + 1 + m) = seqF p rule begin (j + 1 + m) := fun m hm => by
    rw [← stW_gi p begin (i + 1) hm, ← stW_gi p begin (j + 1) hm, h]
  rw [stW_gi p begin i hk, stW_gi p begin j hk]
  by_cases z : k = 0
  · subst z
    rw [Nat.add_zero, Nat.add_zero]
    have R := seqF_rec (p := p) (rule := rule) hl
    obtain ⟨l, hL⟩ : ∃ l, rule.length = l + 1 := ⟨rule.length - 1, by omega⟩
    have a := R i
    have b := R j
    have lastE : lastI rule = gi rule (l : Int) := by
      rw [lastI_gi (by omega), hL]
      rfl
    have ex : ∀ n, sumN (fun k => gi rule (k : Int) * seqF p rule begin (n + rule.length - 1 - k)) rule.length = sumN (fun k => gi rule (k : Int) * seqF p rule begin (n + 1 + (l - 1 - k))) l + lastI rule * seqF p rule begin n := fun n => by
      rw [hL]
      show sumN _ l + gi rule (l : Int) * _ = _
      rw [lastE, show n + (l + 1) - 1 - l = n by omega]
      congr 1
      refine sumN_congr fun m hm => ?_
      rw [show n + (l + 1) - 1 - m = n + 1 + (l - 1 - m) by omega]
    have e1 : seqF p rule begin (i + rule.length) = seqF p rule begin (j + rule.length) := by
      have := H l (by omega)
      rw [show i + rule.length = i + 1 + l by omega, show j + rule.length = j + 1 + l by omega]
      exact this
    have e2 : sumN (fun k => gi rule (k : Int) * seqF p rule begin (i + 1 + (l - 1 - k))) l = sumN (fun k => gi rule (k : Int) * seqF p rule begin (j + 1 + (l - 1 - k))) l := sumN_congr fun m hm => by rw [H (l - 1 - m) (by omega)]
    rw [ex i, e1, e2] at a
    rw [ex j] at b
    have c := a.symm.trans b
    have d : Cg p (lastI rule * seqF p rule begin i) (lastI rule * seqF p rule begin j) := by
      have := c.sub (Cg.refl p (sumN (fun k => gi rule (k : Int) * seqF p rule begin (j + 1 + (l - 1 - k))) l))
      exact (Cg.of_eq (by omega)).trans (this.trans (Cg.of_eq (by omega)))
    have inv := turn_inv hp hn (by omega) (h0.resolve_left (by omega))
    have e := Cg.mul_left (invP p (lastI rule)) d
    have f1 := inv.mul (Cg.refl p (seqF p rule begin i))
    have f2 := inv.mul (Cg.refl p (seqF p rule begin j))
    have g : Cg p (seqF p rule begin i) (seqF p rule begin j) := (Cg.of_eq (by omega)).trans (f1.symm.trans ((Cg.of_eq (by grind)).trans (e.trans ((Cg.of_eq (by grind)).trans (f2.trans (Cg.of_eq (by omega)))))))
    exact g.eq_of (seqF_nums (by omega) hb _) (seqF_nums (by omega) hb _)
  · have := H (k - 1) (by omega)
    rw [show i + 1 + (k - 1) = i + k by omega, show j + 1 + (k - 1) = j + k by omega] at this
    exact this
theorem stW_round {p : Int} (hp : p ∈ primes) {rule begin : List Int} (hn : Nums p rule) (hb : Nums p begin) (hl : begin.length = rule.length) (h0 : rule.length = 0 ∨ lastI rule ≠ 0) : ∀ i j, i < j → stW p rule begin i = stW p rule begin j → stW p rule begin (j - i) = begin
  | 0, j, _, h => by
    rw [Nat.sub_zero, ← h, stW_0 hl]
  | i + 1, j, hij, h => by
    obtain ⟨m, rfl⟩ : ∃ m, j = m + 1 := ⟨j - 1, by omega⟩
    have := stW_round hp hn hb hl h0 i m (by omega) (stW_back hp hn hb hl h0 h)
    rw [show m + 1 - (i + 1) = m - i by omega]
    exact this
/-- the round -/
def Rnd (p : Int) (rule begin : List Int) (r : Nat) : Prop := 1 ≤ r ∧ r ≤ 2000 ∧ stW p rule begin r = begin ∧ ∀ m, 1 ≤ m → m < r → stW p rule begin m ≠ begin
theorem rnd_is {p : Int} (hp : p ∈ primes) {rule begin : List Int} (hn : Nums p rule) (hb : Nums p begin) (hl : begin.length = rule.length) (h0 : rule.length = 0 ∨ lastI rule ≠ 0) (hbd : pw p rule.length ≤ 2000) : ∃ r, Rnd p rule begin r := by
  have hpl := primes_le p hp
  obtain ⟨q, rfl⟩ : ∃ q : Nat, p = (q : Int) := ⟨p.toNat, by omega⟩
  have hpp := pw_pos (p := (q : Int)) (by omega) rule.length
  obtain ⟨i, j, h1, h2, h3⟩ := php (pw (q : Int) rule.length).toNat (fun k => enc q (stW (q : Int) rule begin k)) (fun k _ => by
    have := enc_lt (p := q) (by omega) (stW (q : Int) rule begin k) (stW_nums (by omega) hb k)
    rw [stW_len] at this
    show enc q (stW (q : Int) rule begin k) < _
    omega)
  have e := enc_inj _ _ (stW_nums (by omega) hb i) (stW_nums (by omega) hb j) (by rw [stW_len, stW_len]) h3
  have e2 := stW_round hp hn hb hl h0 i j h1 e
  obtain ⟨r, a, b, c, d⟩ := least_one (fun m => stW (q : Int) rule begin m = begin) (j - i) (by omega) e2
  exact ⟨r, a, by omega, c, d⟩
end RF
namespace RF
theorem stW_on {p : Int} {rule begin : List Int} (hl : begin.length = rule.length) (k : Nat) : (onBy p rule (stW p rule begin k) (1 : Int).toNat).drop (1 : Int).toNat = stW p rule begin (k + 1) := stW_step hl k
end RF
namespace RF
theorem pw_le {p : Int} (hp : 2 ≤ p) : ∀ n, pw 2 n ≤ pw p n
  | 0 => Int.le_refl 1
  | n + 1 => Int.mul_le_mul (pw_le hp n) hp (by omega) (by have := pw_pos (p := p) (by omega) n; omega)
theorem pw_two {p : Int} (hp : 2 ≤ p) : 2048 ≤ pw p 11 := Int.le_trans (by decide) (pw_le hp 11)
end RF
namespace RF
def stM (p : Int) : Nat → Int
  | 0 => 1
  | n + 1 => if stM p n ≤ 2000 then stM p n * p else stM p n
theorem stM_small {p : Int} (hp : 1 ≤ p) : ∀ {n : Nat}, pw p n ≤ 2000 → stM p n = pw p n
  | 0, _ => rfl
  | n + 1, h => by
    have h2 := Int.le_trans (pw_step hp n) h
    have h3 := stM_small hp h2
    show (if stM p n ≤ 2000 then stM p n * p else stM p n) = pw p n * p
    rw [h3, if_pos h2]
theorem stM_big {p : Int} (hp : 1 ≤ p) : ∀ {n : Nat}, 2000 < pw p n → 2000 < stM p n
  | 0, h => by
    have h : (2000 : Int) < 1 := h
    omega
  | n + 1, h => by
    show 2000 < (if stM p n ≤ 2000 then stM p n * p else stM p n)
    by_cases z : pw p n ≤ 2000
    · rw [stM_small hp z, if_pos z]
      exact h
    · have := stM_big hp (show 2000 < pw p n by omega)
      rw [if_neg (by omega)]
      exact this
end RF

namespace RF
open PySem PySem.Spec PyProof.Rows L2 Evl
section
variable {K : PySem.W.Frag} {σ : L2.St} {H H' H0 H1 : Hp} {ta tb te tx tl : TE} {t u : TT} {x y z v : V} {D : Ends} {tu tw tz : TS} {g : TG} {d : PyData} {f a : Addr}
/-- xs[-1] -/
theorem atI_last {ns : List Int} (h : 1 ≤ ns.length) : atI (ns.map V.int) (-1) = some (.int (gi ns ((ns.length : Int) - 1))) := by
  have e : ixN (ns.map V.int).length (-1) = some (ns.length - 1) := by
    rw [List.length_map]
    unfold ixN
    rw [if_neg (by omega), if_pos (by omega)]
    congr 1
    omega
  unfold atI
  rw [e]
  show (ns.map V.int)[ns.length - 1]? = _
  rw [List.getElem?_map, List.getElem?_eq_getElem (by omega), show (ns.length : Int) - 1 = ((ns.length - 1 : Nat) : Int) by omega, gi_lt (by omega)]
  rfl
theorem ev_ixl {ns : List Int} (ha : EvD K ta σ H (dl ns)) (hb : Ev tb σ H (.int (-1))) (h : 1 ≤ ns.length) : Ev (tOp (rIxL K) ta tb) σ H (.int (gi ns ((ns.length : Int) - 1))) := fun H1 e Q q =>
  ha H1 e _ fun v H2 e2 hv => by
    obtain ⟨a, rfl, ha'⟩ := dl_dp hv
    exact hb H2 (e.trans e2) _ fun H3 e3 => ⟨a, _, -1, _, rfl, rfl, ex_l e3 ha', atI_last h, q H3 (e2.trans e3)⟩
/-- xs[:-1] -/
theorem cut_init {ns : List Int} (h : 1 ≤ ns.length) : cutI ns none (some (-1)) = ns.take (ns.length - 1) := by
  unfold cutI
  have e : HT.sIx ns.length ns.length (some (-1)) = ns.length - 1 := by
    unfold HT.sIx
    simp
    omega
  rw [e, HT.sIx_none]
  simp
theorem el_init {ns : List Int} (h : EvD K te σ H (dl ns)) (h1 : Ev tb σ H (.int (-1))) (hl : 1 ≤ ns.length) : EvL (tSl (rSlL K) te tNoPart (tPart tb)) σ H ((ns.take (ns.length - 1)).map V.int) := by
  rw [← cut_init hl]
  exact el_slD h eo_none (eo_some h1)
/-- a heap without one place -/
def del (H : Hp) (f : Addr) : Hp := fun a => if a = f then none else H a
theorem del_self : del H f f = none := if_pos rfl
theorem del_ne (h : a ≠ f) : del H f a = H a := if_neg h
theorem del_sub : Ex (del H f) H := fun a o h => by
  unfold del at h
  by_cases e : a = f
  · rw [if_pos e] at h
    cases h
  · rw [if_neg e] at h
    exact h
theorem del_ex (e : Ex H0 H) (h : H0 f = none) : Ex H0 (del H f) := fun a o ha => by
  have hn : a ≠ f := fun z => by
    subst z
    rw [h] at ha
    cases ha
  rw [del_ne hn]
  exact e a o ha
theorem del_at {o : HO} (h : H a = some o) (hn : a ≠ f) : del H f a = some o := by
  rw [del_ne hn]
  exact h
/-- x = (a, b, ..) -/
theorem s_asgT {i : Nat} {ta : TA} {vs : List V} (h : EvA ta σ H vs) (hl : vs.length ≤ 100000) (k : ∀ p H1 H2, Ex H H1 → H1 p = none → Ex H1 H2 → H2 p = some (.tup vs) → D.nx (σ.set i (some (.ref p))) H2) : tAsg (tTup ta) (gName i) D σ H :=
  h H (Ex.refl H) _ fun H1 e => ⟨sz_of hl, fun p hp => k p H1 _ e hp (Ex.new hp) upd_same⟩
theorem s_retT {ta : TA} {vs : List V} (h : EvA ta σ H vs) (hl : vs.length ≤ 100000) (k : ∀ p H1, H p = none → Ex H H1 → H1 p = some (.tup vs) → D.rt (.ref p) H1) : tRet (tTup ta) D σ H :=
  h H (Ex.refl H) _ fun H1 e => ⟨sz_of hl, fun p hp => k p _ (fresh_back e hp) (e.trans (Ex.new hp)) upd_same⟩
/-- [e for k in range(n) if t] of ints -/
theorem el_r1t {ta : TA} {j : Nat} {vs : List Nat} {n : Int} (f : Nat → Bool) (v : Nat → Int) (h : EvA ta σ H [.int n]) (hn : 0 ≤ n ∧ n ≤ 40000) (hw : ∀ x, wipe ((wipe σ vs).set j (some x)) vs = wipe σ vs)
    (ht : ∀ (i : Nat) H1, Ex H H1 → (i : Int) < n → EvT t ((wipe σ vs).set j (some (.int (i : Int)))) H1 (f i))
    (he : ∀ (i : Nat) H1, Ex H H1 → (i : Int) < n → f i = true → Ev te ((wipe σ vs).set j (some (.int (i : Int)))) H1 (.int (v i))) : EvL (tLc (iRng1 ta) (gName j) t te vs) σ H ((((List.range n.toNat).filter f).map v).map V.int) := by
  have q := el_lcR1 (te := te) (t := t) (σ := σ) (H := H) (j := j) (vs := vs) (n := n) f (fun i => V.int (v i)) h hn hw ht he
  unfold given at q
  rw [List.map_map]
  exact q
end
/-! ### what the making of the shortest rule tells -/
def jumpD : Option (List Int × Nat × Int) → PyData
  | none => .none
  | some (t, m, h) => .tuple [dl t, .int (m : Int), .int h]
def sp_found_by (K : PySem.W.Frag) : Sp := fun vs H Q _ => ∃ p row, DpAll K H vs [.int p, dl row] ∧ p ∈ primes ∧ Nums p row ∧ row.length ≤ 60 ∧
  ∀ (a f : Addr) (vt vj : V) H', H f = none → Ex H H' → H' a = some (.tup [vt, .ref f, vj]) → Dp K H' vt (dl (bmN p row row.length).test) → H' f = some (.lst ((longsL p row row.length).map V.int)) → Dp K H' vj (jumpD (bmN p row row.length).jump) → Q (.ref a) H'
def sp_paper (K : PySem.W.Frag) : Sp := fun vs H Q _ => ∃ p row, DpAll K H vs [.int p, dl row] ∧ p ∈ primes ∧ isPrime p = true ∧ areNums p row = true ∧ Nums p row ∧ row.length ≤ 30 ∧
  ((bmN p row row.length).jump = none → ∀ H', Ex H H' → Q .non H') ∧ (∀ t m h, (bmN p row row.length).jump = some (t, m, h) → ∀ f H', H f = none → Ex H H' → H' f = some (.lst ((paperL p row.length t m (invP p h)).map V.int)) → Q (.ref f) H')
end RF
namespace RF
open PySem PySem.Spec PyProof.Rows L2 Evl
theorem rv_isN {x : V} {H : Hp} : RV rIsN x .non H (.bl (decide (x = .non))) := fun H1 _ Q q => ⟨rfl, q H1 (Ex.refl H1)⟩
end RF
namespace RF
open PySem PySem.Spec PyProof.Rows L2 Evl
theorem ev_sp {K : PySem.W.Frag} {σ : L2.St} {H : Hp} {sp : Sp} {E : XK} {ta : TA} {ds : List PyData} {Q : VK} (h : EvDA K ta σ H ds) (k : ∀ vs H1, Ex H H1 → DpAll K H1 vs ds → sp vs H1 Q E) : tCall sp [] E ta σ H Q :=
  h H (Ex.refl H) _ fun vs H1 e hv => by
    rw [List.append_nil]
    exact k vs H1 e hv
end RF
namespace RF
open PySem PySem.Spec PyProof.Rows L2 Evl
theorem ev_asg {σ : L2.St} {H : Hp} {te : TE} {v : V} {Q : VK} (h : Ev te σ H v) (k : ∀ H1, Ex H H1 → Q v H1) : te σ H Q := h H (Ex.refl H) _ k
end RF
namespace RF
open PySem PySem.Spec PyProof.Rows L2 Evl
section
variable {K : PySem.W.Frag} {σ : L2.St} {H H2 : Hp} {te : TE} {D : Ends} {tz : TS} {i j k : Nat} {n : Int} {a : Addr} {x y z : V}
theorem q_unp3 (h : te σ H (fun v H2 => gTup K 3 (gCons (gName i) (gCons (gName j) (gCons (gName k) gNil))) v σ H2 (tz D))) : tSeq (tAsg te (gTup K 3 (gCons (gName i) (gCons (gName j) (gCons (gName k) gNil))))) tz D σ H := h
theorem unp3 (h : SqT K H2 a [x, y, z]) (q : tz D (((σ.set i (some x)).set j (some y)).set k (some z)) H2) : gTup K 3 (gCons (gName i) (gCons (gName j) (gCons (gName k) gNil))) (.ref a) σ H2 (tz D) := ⟨a, _, rfl, h, rfl, _, _, rfl, _, _, rfl, _, _, rfl, rfl, q⟩
theorem s_retIx (h : te σ H (fun v H2 => rIxT K v (.int n) H2 D.rt)) : tRet (tOp (rIxT K) te (tC (.int n))) D σ H := h
theorem q_asgIx (h : te σ H (fun v H2 => rIxT K v (.int n) H2 (fun x H3 => tz D (σ.set i (some x)) H3))) : tSeq (tAsg (tOp (rIxT K) te (tC (.int n))) (gName i)) tz D σ H := h
end
end RF
namespace RF
open PySem PySem.Spec PyProof.Rows L2 Evl
theorem q_appV {K : PySem.W.Frag} {σ : L2.St} {H : Hp} {ta te : TE} {v : V} {D : Ends} {tz : TS} {l : Addr} {xs : List V} (hl : H l = some (.lst xs)) (ha : Ev ta σ H (.ref l)) (h : Ev te σ H v) (hz : xs.length < 100000)
    (k : ∀ H1, Ex H H1 → tz D σ (upd H1 l (.lst (xs ++ [v])))) : tSeq (tDrop (tBM K "list" rAppend ta (tCons te tNil))) tz D σ H := s_app (D := { D with nx := tz D }) hl ha h hz k
theorem rv_notB {a b : Bool} {H : Hp} : RV rNotB (.bl a) (.bl b) H (.bl (!decide (a = b))) := fun H1 _ Q q => ⟨a, b, rfl, rfl, q H1 (Ex.refl H1)⟩
/-- two lists of lists that grow, apart from what lies in them -/
def Two (K : PySem.W.Frag) (H H' : Hp) (r1 r2 : Addr) (ds es : List PyData) : Prop := ∃ H0 xs ys, Ex H H0 ∧ H0 r1 = none ∧ H0 r2 = none ∧ Ex H0 H' ∧ H' r1 = some (.lst xs) ∧ H' r2 = some (.lst ys) ∧ DpAll K H0 xs ds ∧ DpAll K H0 ys es
theorem dpAll_snoc {K : PySem.W.Frag} {H : Hp} {xs : List V} {ds : List PyData} {v : V} {d : PyData} (h : DpAll K H xs ds) (hd : Dp K H v d) : DpAll K H (xs ++ [v]) (ds ++ [d]) := dpAll_app h (.cons hd .nil)
end RF
namespace RF
open PySem PySem.Spec PyProof.Rows L2 Evl
section
variable {K : PySem.W.Frag} {σ : L2.St} {H : Hp} {ta tb te : TE} {D : Ends} {tz : TS} {l : Addr}
/-- xs[::-1] -/
theorem el_revL {ns : List Int} (h : EvD K te σ H (dl ns)) : EvL (tRevL K te) σ H (ns.reverse.map V.int) := fun H1 e Q q => h H1 e _ fun v H2 e2 hv => by
  obtain ⟨a, rfl, ha⟩ := dl_dp hv
  exact ⟨a, _, rfl, ha, fun p hp => q p _ (fresh_back e2 hp) (e2.trans (Ex.new hp)) (by rw [List.map_reverse]; exact upd_same)⟩
/-- xs[-1] = e -/
theorem s_setLast {ns : List Int} {y : Int} (hl : H l = some (.lst (ns.map V.int))) (h : Ev te σ H (.int y)) (ho : Ev ta σ H (.ref l)) (hi : Ev tb σ H (.int (-1))) (h1 : 1 ≤ ns.length) (k : ∀ H1, Ex H H1 → D.nx σ (upd H1 l (.lst ((ns.set (ns.length - 1) y).map V.int)))) :
    tAsg te (gSub ta tb rSetL) D σ H := h H (Ex.refl H) _ fun H1 e1 => ho H1 e1 _ fun H2 e2 => hi H2 (e1.trans e2) _ fun H3 e3 =>
  ⟨l, _, -1, ns.length - 1, rfl, rfl, ((e1.trans e2).trans e3) l _ hl, by
    rw [List.length_map]
    unfold ixN
    rw [if_neg (by omega), if_pos (by omega)]
    congr 1
    omega, by rw [← List.map_set]; exact k H3 ((e1.trans e2).trans e3)⟩
/-- [e for x in reversed(xs)] -/
theorem el_revI {ta : TA} {ns : List Int} {j : Nat} {vs : List Nat} (v : Int → V) (h : EvDA K ta σ H [dl ns]) (hz : ns.length ≤ 40000) (hw : ∀ x, wipe ((wipe σ vs).set j (some x)) vs = wipe σ vs)
    (he : ∀ (x : Int) H1, Ex H H1 → x ∈ ns → Ev te ((wipe σ vs).set j (some (.int x))) H1 (v x)) : EvL (tLc (iRev K ta) (gName j) tYes te vs) σ H (ns.reverse.map v) := fun H0 e Q q => h H0 e _ fun ws H1 e1 hv => by
  obtain ⟨w, rfl, hw1⟩ := args1 hv
  obtain ⟨a, rfl, ha⟩ := dl_dp hw1
  refine ⟨a, ns.map V.int, rfl, ha, fun D hD => ?_⟩
  rw [List.length_map]
  refine ⟨fun i m H' => m = ns.length - i ∧ i ≤ ns.length ∧ Ex H1 H' ∧ H' D = some (.lst ((ns.reverse.take i).map v)), ⟨_, rfl, Nat.zero_le _, Ex.new hD, upd_same⟩, fun i m H' hW => ?_⟩
  obtain ⟨rfl, hi, eH, hA⟩ := hW
  by_cases hlt : i < ns.length
  · have hg : (ns.map V.int)[ns.length - 1 - i]? = some (.int (ns[ns.length - 1 - i]'(by omega))) := by
      rw [List.getElem?_map, List.getElem?_eq_getElem (by omega)]
      rfl
    refine Or.inr ⟨⟨hlt, _, _, ex_l eH ha, hg⟩, fun H'' => Ex H1 H'' ∧ H'' D = some (.lst ((ns.reverse.take (i + 1)).map v)), fun H'' hN => ⟨ns.length - (i + 1), by omega, rfl, by omega, hN.1, hN.2⟩, fun x H'' hx => ?_⟩
    obtain ⟨rfl, hx⟩ := hx
    have hx := hx _ (ex_l eH ha)
    rw [hg] at hx
    obtain rfl := (Option.some.inj hx).symm
    refine ⟨hw _, ?_⟩
    show te _ H'' _
    refine he _ H'' (e.trans (e1.trans eH)) (List.getElem_mem _) H'' (Ex.refl _) _ fun H4 e4 => ⟨_, e4 _ _ hA, ?_, Ex.mut (eH.trans e4) hD, ?_⟩
    · have : ((ns.reverse.take i).map v).length + 1 ≤ sizeLine := sz_of (by
        rw [List.length_map, List.length_take, List.length_reverse]
        omega)
      omega
    · rw [upd_same]
      congr 2
      rw [List.take_succ, List.map_append, List.getElem?_eq_getElem (by rw [List.length_reverse]; exact hlt), List.getElem_reverse]
      rfl
  · refine Or.inl ⟨Nat.le_of_not_lt hlt, q D H' (fresh_back e1 hD) (e1.trans eH) ?_⟩
    rw [hA, List.take_of_length_le (by rw [List.length_reverse]; omega)]
end
end RF
namespace RF
open PySem PySem.Spec PyProof.Rows L2 Evl
theorem ea_is {σ : L2.St} {H : Hp} {ta : TA} {vs ws : List V} (h : EvA ta σ H vs) (e : vs = ws) : EvA ta σ H ws := e ▸ h
end RF

namespace RF
open PySem PySem.Spec PyProof.Rows L2 Evl
/-! ### texts: what they are -/
abbrev word (i : Int) : PySem.Str := PySem.Str.ofString (toString i)
def isWB (w : PySem.Str) (n : Int) : Bool := decide (1 ≤ w.length) && decide (w.length ≤ 2) && (decide (w.length ≤ 1) || decide (w.cps.toList.head? ≠ some 48)) && (w.cps.toList.all fun c => decide (c ∈ (("0123456789" : PySem.Str)).cps.toList)) && decide (PySem.intText? w = some n)
theorem isW_all : ((List.range 100).all fun n => isWB (word (n : Int)) (n : Int)) = true := by decide +kernel
def IsW (w : PySem.Str) (n : Int) : Prop := isWB w n = true
theorem isW_word {n : Int} (h0 : 0 ≤ n) (h1 : n < 100) : IsW (word n) n := by
  have h := (List.all_eq_true.mp isW_all) n.toNat (List.mem_range.mpr (by omega))
  rw [Int.toNat_of_nonneg h0] at h
  exact h
theorem word_tl {n : Int} (h : 0 ≤ n) : TL.tl (word n) = TL.numL n.toNat := by
  have e := TL.tl_num n.toNat
  rw [Int.toNat_of_nonneg h] at e
  exact e
theorem word_len {n : Int} (h0 : 0 ≤ n) (h1 : n < 100) : (word n).length ≤ 2 := by
  have h := isW_word h0 h1
  unfold IsW isWB at h
  simp only [Bool.and_eq_true, decide_eq_true_eq] at h
  exact h.1.1.1.2
theorem log_ok {i : Int} (h0 : 0 ≤ i) (h1 : i ≤ 1000) : i.natAbs.log2 < 1920 := Nat.lt_of_le_of_lt (Nat.log2_le_self _) (by omega)
/-- the row's part of a note; a note -/
def restOf (row : List Int) : PySem.Str := PySem.Txt.join " " (PySem.Str.empty :: row.map word)
def noteOf (p : Int) (row : List Int) : PySem.Str := PySem.Txt.join ":" [word p, restOf row]
theorem joinL_cons (s : Nat) : ∀ (p : List Nat) (ps : List (List Nat)), TL.joinL [s] (p :: ps) = p ++ (ps.map fun q => s :: q).flatten
  | p, [] => by
    show p = p ++ []
    rw [List.append_nil]
  | p, q :: r => by
    show p ++ ([s] ++ TL.joinL [s] (q :: r)) = p ++ ((s :: q) ++ (r.map fun q => s :: q).flatten)
    rw [joinL_cons s q r] <;> rfl
theorem joinL_nil : ∀ ps : List (List Nat), TL.joinL [] ps = ps.flatten
  | [] => rfl
  | [p] => by
    show p = p ++ []
    rw [List.append_nil]
  | p :: q :: r => by
    show p ++ ([] ++ TL.joinL [] (q :: r)) = p ++ (q :: r).flatten
    rw [joinL_nil (q :: r)] <;> rfl
theorem tl_blank : TL.tl (" " : PySem.Str) = [32] := by decide
theorem tl_colon : TL.tl (":" : PySem.Str) = [58] := by decide
theorem tl_none : TL.tl ("" : PySem.Str) = [] := by decide
theorem rest_tl (row : List Int) : TL.tl (restOf row) = (row.map fun n => 32 :: TL.tl (word n)).flatten := by
  unfold restOf
  rw [TL.join_eq, TL.tl_join, tl_blank, List.map_cons, joinL_cons]
  show [] ++ _ = _
  rw [List.nil_append, List.map_map, List.map_map]
  rfl
theorem note_tl (p : Int) (row : List Int) : TL.tl (noteOf p row) = TL.tl (word p) ++ 58 :: TL.tl (restOf row) := by
  unfold noteOf
  rw [TL.join_eq, TL.tl_join, tl_colon]
  rfl
theorem rest_free {row : List Int} {p : Int} (hn : Nums p row) : 58 ∉ TL.tl (restOf row) := by
  rw [rest_tl]
  intro h
  rw [List.mem_flatten] at h
  obtain ⟨l, hl, h⟩ := h
  rw [List.mem_map] at hl
  obtain ⟨n, hm, rfl⟩ := hl
  rw [List.mem_cons, word_tl (hn n hm).1] at h
  rcases h with h | h
  · omega
  · exact TL.numL_free (by omega) h
theorem note_split {p : Int} {row : List Int} (hp : 0 ≤ p) (hn : Nums p row) : PySem.Txt.split (noteOf p row) ":" = [word p, restOf row] :=
  TL.split_join tl_colon (by decide +kernel) (by simp) fun q hq => by
    rw [List.mem_cons, List.mem_singleton] at hq
    rcases hq with rfl | rfl
    · rw [word_tl hp]
      exact TL.numL_free (by omega)
    · exact rest_free hn
theorem rest_split {p : Int} {row : List Int} (hn : Nums p row) : PySem.Txt.split (restOf row) " " = PySem.Str.empty :: row.map word :=
  TL.split_join tl_blank (by decide +kernel) (by simp) fun q hq => by
    rw [List.mem_cons] at hq
    rcases hq with rfl | hq
    · decide
    · rw [List.mem_map] at hq
      obtain ⟨n, hm, rfl⟩ := hq
      rw [word_tl (hn n hm).1]
      exact TL.numL_free (by omega)
/-- as shown makes it -/
def shownOf (p : Int) (row : List Int) : PySem.Str := word p ++ ":" ++ PySem.Txt.join "" (row.map fun n => (" " : PySem.Str) ++ word n)
theorem shown_note (p : Int) (row : List Int) : shownOf p row = noteOf p row := by
  refine TL.ext_tl ?_
  unfold shownOf
  rw [note_tl, TL.tl_append, TL.tl_append, TL.join_eq, TL.tl_join, tl_none, tl_colon, joinL_nil, rest_tl, List.map_map, List.append_assoc]
  have z : row.map (TL.tl ∘ fun n => (" " : PySem.Str) ++ word n) = row.map fun n => 32 :: TL.tl (word n) := List.map_congr_left fun n _ => by
    show TL.tl ((" " : PySem.Str) ++ word n) = _
    rw [TL.tl_append, tl_blank]
    rfl
  rw [z]
  rfl
/-- as the law makes it -/
def textN (p : Int) (row : List Int) : Nat → PySem.Str
  | 0 => word p ++ ":"
  | i + 1 => textN p row i ++ " " ++ word (gi row (i : Int))
theorem textN_tl (p : Int) (row : List Int) : ∀ i, i ≤ row.length → TL.tl (textN p row i) = TL.tl (word p) ++ 58 :: ((row.take i).map fun n => 32 :: TL.tl (word n)).flatten
  | 0, _ => by
    show TL.tl (word p ++ ":") = _
    rw [TL.tl_append, tl_colon]
    rfl
  | i + 1, h => by
    show TL.tl (textN p row i ++ " " ++ word (gi row (i : Int))) = _
    rw [TL.tl_append, TL.tl_append, textN_tl p row i (by omega), tl_blank, List.take_succ, List.map_append, List.flatten_append, gi_lt (by omega), List.getElem?_eq_getElem (by omega)]
    simp
theorem textN_note (p : Int) (row : List Int) : textN p row row.length = noteOf p row := TL.ext_tl (by
  rw [textN_tl p row _ (Nat.le_refl _), List.take_length, note_tl, rest_tl])
theorem flat_len {row : List Int} {p : Int} (hn : Nums p row) (hq : p ≤ 97) : (row.map fun n => 32 :: TL.tl (word n)).flatten.length ≤ 3 * row.length := by
  induction row with
  | nil => exact Nat.le_refl 0
  | cons x xs ih =>
    have h1 := ih fun y hy => hn y (List.mem_cons_of_mem _ hy)
    have h2 := hn x (List.mem_cons_self ..)
    have h3 := word_len h2.1 (by omega)
    rw [TL.len_tl] at h3
    rw [List.map_cons, List.flatten_cons, List.length_append, List.length_cons, List.length_cons]
    omega
theorem rest_len {row : List Int} {p : Int} (hn : Nums p row) (hq : p ≤ 97) : (restOf row).length ≤ 3 * row.length := by
  rw [TL.len_tl, rest_tl]
  exact flat_len hn hq
theorem note_len {row : List Int} {p : Int} (hp : 0 ≤ p) (hn : Nums p row) (hq : p ≤ 97) : (noteOf p row).length ≤ 3 + 3 * row.length := by
  have h := rest_len hn hq
  have h2 := word_len hp (by omega)
  rw [TL.len_tl] at h h2 ⊢
  rw [note_tl, List.length_append, List.length_cons]
  omega
theorem textN_len {row : List Int} {p : Int} (hp : 0 ≤ p) (hn : Nums p row) (hq : p ≤ 97) (i : Nat) (hi : i ≤ row.length) : (textN p row i).length ≤ 3 + 3 * row.length := by
  have h2 := word_len hp (by omega)
  have h3 := flat_len (hn.take i) hq
  rw [List.length_take] at h3
  rw [TL.len_tl] at h2 ⊢
  rw [textN_tl p row i hi, List.length_append, List.length_cons]
  omega
/-! ### what evaluates to a text -/
section
variable {K : PySem.W.Frag} {σ : L2.St} {H : Hp} {ta tb te tl : TE} {D : Ends} {tu tz : TS} {a : Addr}
def rStrI : List V → Hp → VK → Prop := fun xs H Q => ∃ i, xs = [.int i] ∧ i.natAbs.log2 < 1920 ∧ Q (.str (word i)) H
theorem cl_strI {X : Cx} : CallR X (.type "str") rStrI := call_str_int
def rAddS : R2 := fun x y H Q => ∃ i j, x = .str i ∧ y = .str j ∧ i.length + j.length ≤ sizeLine ∧ Q (.str (i ++ j)) H
theorem op_addS {X : Cx} : OpR X (binaryOp .Add) rAddS := op_add_str
def rLenStr : List V → Hp → VK → Prop := fun xs H Q => ∃ z, xs = [.str z] ∧ z.length ≤ sizeLine ∧ Q (.int z.length) H
theorem cl_lenS {X : Cx} : CallR X (.builtin "len") rLenStr := call_len_str
def rIntStr : List V → Hp → VK → Prop := fun xs H Q => ∃ a n, xs = [.str a] ∧ PySem.intText? a = some n ∧ a.length ≤ 640 ∧ Q (.int n) H
theorem cl_intS {X : Cx} : CallR X (.type "int") rIntStr := call_int_str
def rJoinK (K : PySem.W.Frag) : V → List V → Hp → VK → Prop := fun x xs H Q => ∃ a p, ∃ ys : List PySem.Str, x = .str a ∧ xs = [.ref p] ∧ (SqL K H p (ys.map V.str) ∨ SqT K H p (ys.map V.str)) ∧ (ys.map (·.length)).sum + ys.length * a.length ≤ 16777216 ∧ Q (.str (PySem.Txt.join a ys)) H
theorem pe_joinK {X : Cx} {K : PySem.W.Frag} {o e : Expr} {to te : TE} {apos pos : Pos} (h : X.K = K) (ho : PE X o to) (he : PE X e te) (h1 : starEach [e] X.env = [(false, eval e X.env)] := by rfl) (h2 : attributeBase o "join" X.env (eval o X.env) = eval o X.env := by rfl) (h3 : (apos.endLine == pos.line) = true := by rfl) :
    PE X (.Call (.Attribute o "join" apos) [e] [] pos) (tM1 (rJoinK K) to te) := by
  subst h
  exact pe_join ho he h1 h2 h3
def rSplitS : V → List V → Hp → VK → Prop := fun x xs H Q => ∃ a b, x = .str a ∧ xs = [.str b] ∧ (b.length == 0) = false ∧ a.length + 2 ≤ sizeLine ∧ rNewStrs (PySem.Txt.split a b) H Q
theorem pe_splitS {X : Cx} {o e : Expr} {to te : TE} {apos pos : Pos} (ho : PE X o to) (he : PE X e te) (h1 : starEach [e] X.env = [(false, eval e X.env)] := by rfl) (h2 : attributeBase o "split" X.env (eval o X.env) = eval o X.env := by rfl) (h3 : (apos.endLine == pos.line) = true := by rfl) :
    PE X (.Call (.Attribute o "split" apos) [e] [] pos) (tM1 rSplitS to te) := pe_split ho he h1 h2 h3
theorem ev_strI {i : Int} (h : Ev te σ H (.int i)) (hb : 0 ≤ i ∧ i ≤ 1000) : Ev (tCB rStrI (tCons te tNil)) σ H (.str (word i)) := fun H1 e Q q => h H1 e _ fun H2 e2 => ⟨i, rfl, log_ok hb.1 hb.2, q H2 e2⟩
theorem rv_addS {x y : PySem.Str} (h : x.length + y.length ≤ 10000) : RV rAddS (.str x) (.str y) H (.str (x ++ y)) := fun H1 _ Q q => ⟨x, y, rfl, rfl, sz_of (by omega), q H1 (Ex.refl H1)⟩
theorem ev_lenS {z : PySem.Str} (h : Ev te σ H (.str z)) (hz : z.length ≤ 10000) : Ev (tCB rLenStr (tCons te tNil)) σ H (.int (z.length : Int)) := fun H1 e Q q => h H1 e _ fun H2 e2 => ⟨z, rfl, sz_of (by omega), q H2 e2⟩
theorem ev_intS {z : PySem.Str} {n : Int} (h : Ev te σ H (.str z)) (hn : PySem.intText? z = some n) (hz : z.length ≤ 640) : Ev (tCB rIntStr (tCons te tNil)) σ H (.int n) := fun H1 e Q q => h H1 e _ fun H2 e2 => ⟨z, n, rfl, hn, hz, q H2 e2⟩
theorem ev_sixS {z : PySem.Str} {c : Nat} {r : List Nat} (h : Ev ta σ H (.str z)) (h2 : Ev tb σ H (.int 0)) (hz : z.length ≤ 10000) (hc : z.cps.toList = c :: r) : Ev (tOp rIxS ta tb) σ H (.str ⟨#[c]⟩) := fun H1 e Q q => h H1 e _ fun H2 e2 => h2 H2 (e.trans e2) _ fun H3 e3 => ⟨z, 0, c, rfl, rfl, sz_of (by omega), by rw [hc]; unfold atI ixN; rw [if_pos (by omega), if_pos (by rw [List.length_cons]; omega)]; rfl, q H3 (e2.trans e3)⟩
theorem rv_notInS {c : Nat} {z : PySem.Str} : RV rNotInS (.str ⟨#[c]⟩) (.str z) H (.bl (!decide (c ∈ z.cps.toList))) := fun H1 _ Q q => ⟨c, z, rfl, rfl, q H1 (Ex.refl H1)⟩
theorem el_splitS {x y : PySem.Str} (h : Ev ta σ H (.str x)) (h2 : Ev tb σ H (.str y)) (hy : (y.length == 0) = false) (hx : x.length ≤ 10000) : EvL (tM1 rSplitS ta tb) σ H ((PySem.Txt.split x y).map V.str) := fun H1 e Q q =>
  h H1 e _ fun H2 e2 => ⟨⟨x, rfl⟩, h2 H2 (e.trans e2) _ fun H3 e3 => ⟨x, y, rfl, rfl, hy, sz_of (by omega), fun p hp => q p _ (fresh_back (e2.trans e3) hp) ((e2.trans e3).trans (Ex.new hp)) upd_same⟩⟩
theorem ev_joinS {x : PySem.Str} {ys : List PySem.Str} (h : Ev ta σ H (.str x)) (h2 : EvL tb σ H (ys.map V.str)) (hs : (ys.map (·.length)).sum + ys.length * x.length ≤ 16777216) : Ev (tM1 (rJoinK K) ta tb) σ H (.str (PySem.Txt.join x ys)) := fun H1 e Q q =>
  h H1 e _ fun H2 e2 => ⟨⟨x, rfl⟩, h2 H2 (e.trans e2) _ fun p H3 _ e3 hp => ⟨x, p, ys, rfl, rfl, .inl (sq_of hp), hs, q H3 (e2.trans e3)⟩⟩
theorem ev_ofS {w : PySem.Str} (h : EvD K te σ H (.str w)) : Ev te σ H (.str w) := fun H1 e Q q => h H1 e Q fun v H2 e2 hv => by
  obtain rfl := dp_str hv
  exact q H2 e2
theorem dpAll_strs : ∀ ws : List PySem.Str, DpAll K H (ws.map V.str) (ws.map PyData.str)
  | [] => .nil
  | w :: ws => .cons (.str w) (dpAll_strs ws)
def ds (ws : List PySem.Str) : PyData := .list (ws.map PyData.str)
theorem dp_ds {ws : List PySem.Str} (h : H a = some (.lst (ws.map V.str))) : Dp K H (.ref a) (ds ws) := .lst (sq_of h) (dpAll_strs ws)
theorem evd_ls {ws : List PySem.Str} (h : EvL te σ H (ws.map V.str)) : EvD K te σ H (ds ws) := fun H1 e Q q => h H1 e Q fun p H2 _ e2 h2 => q _ H2 e2 (dp_ds h2)
/-- for c in a text -/
theorem q_forS {j : Nat} {z : PySem.Str} (h : Ev te σ H (.str z)) (Pv : Hp → Nat → L2.St → Hp → Prop) (h0 : ∀ H1, Ex H H1 → Pv H1 0 σ H1)
    (hs : ∀ H1 (i : Nat) (c : Nat) σ' H', Ex H H1 → z.cps.toList[i]? = some c → Pv H1 i σ' H' → tu { D with nx := Pv H1 (i + 1), ct := Pv H1 (i + 1), bk := tz D } (σ'.set j (some (.str ⟨#[c]⟩))) H') (hd : ∀ H1 σ' H', Ex H H1 → Pv H1 z.cps.toList.length σ' H' → tz D σ' H') : tSeq (tFor (iStr te) (gName j) tu) tz D σ H :=
  h H (Ex.refl H) _ fun H1 e => ⟨z, rfl, for_it walk_str (D := { D with nx := tz D }) (Pv H1) (h0 H1 e) (fun _ _ _ _ _ => trivial) (fun i x σ' H' H'' hi hP hY => by
    obtain ⟨rfl, c, hc, rfl⟩ := hY
    exact hs H1 i c σ' H'' e (by rw [Array.getElem?_toList]; exact hc) hP) (fun σ' H' hP => hd H1 σ' H' e hP)⟩
/-- len, isinstance, items of a tuple -/
theorem ev_lenDT {xs : List PyData} (ha : EvD K ta σ H (.tuple xs)) : Ev (tCB (rLenS K) (tCons ta tNil)) σ H (.int (xs.length : Int)) := fun H1 e Q q =>
  ha H1 e _ fun v H2 e2 hv => by
    cases hv with
    | tup a b =>
      refine ⟨_, _, rfl, .inr a, ?_⟩
      rw [dpAll_len b]
      exact q H2 e2
theorem dp_tyT {xs : List PyData} {v : V} (h : Dp K H v (.tuple xs)) : TyX K H v (.type "tuple") := by
  cases h with
  | tup a b =>
    rcases a with (a | ⟨o, a⟩) | ⟨o, its, n, a, c, _⟩
    · exact .base (.tup a)
    · exact .fTuple a
    · exact .kTuple a c
theorem ev_isiT {xs : List PyData} {b : String} {r : Bool} (h : EvD K te σ H (.tuple xs)) (hk : kitB "tuple" b = some r) : Ev (tCB (rIsi K) (tCons te (tCons (tC (.ty b)) tNil))) σ H (.bl r) := fun H1 e Q q =>
  h H1 e _ fun x H2 e2 hx => ⟨x, .ty b, .type "tuple", .type b, r, rfl, .ty b, dp_tyT hx, kit_ty hk, q H2 e2⟩
theorem ev_ofI {n : Int} (h : EvD K te σ H (.int n)) : Ev te σ H (.int n) := fun H1 e Q q => h H1 e Q fun v H2 e2 hv => by
  obtain rfl := dp_int hv
  exact q H2 e2
theorem ev_tixV {a : Addr} {xs : List V} {i : Int} {v : V} (ha : Ev ta σ H (.ref a)) (hs : SqT K H a xs) (hb : Ev tb σ H (.int i)) (hi : atI xs i = some v) : Ev (tOp (rIxT K) ta tb) σ H v := fun H1 e Q q =>
  ha H1 e _ fun H2 e2 => hb H2 (e.trans e2) _ fun H3 e3 => ⟨a, xs, i, v, rfl, rfl, ex_t ((e.trans e2).trans e3) hs, hi, q H3 (e2.trans e3)⟩
end
/-- what read tells -/
def sp_read (K : PySem.W.Frag) : Sp := fun vs H Q _ => ∃ p row, DpAll K H vs [.str (noteOf p row)] ∧ p ∈ primes ∧ Nums p row ∧ row.length ≤ 30 ∧
  ∀ (a f : Addr) H', H f = none → Ex H H' → H' a = some (.tup [.int p, .ref f]) → H' f = some (.lst (row.map V.int)) → Q (.ref a) H'
def F__law_right (xs : List PyData) (v : V) : Prop := ∃ (q p : Int) (ns row : List Int), xs = [.tuple [.int q, dl ns], .int p, dl row] ∧ q = p ∧ ns = row ∧ row.length ≤ 1000 ∧ v = .bl true
end RF

namespace RF
open PySem PySem.Spec PyProof.Rows L2 Evl
/-! ### how often in a list of flat things -/
theorem countU {y : V} : ∀ {ys : List V} {us : List Value}, Vals ys us → ys.all flatV = true → us.countP (eqU y) = ys.countP fun z => eqV z y
  | _, _, .nil, _ => rfl
  | z :: ys, u :: us, .cons r t, f => by
    rw [List.all_cons, Bool.and_eq_true] at f
    rw [List.countP_cons, List.countP_cons, countU t f.2, eqU_of r f.1]
def rCntF (K : PySem.W.Frag) : V → List V → Hp → VK → Prop := fun x xs H Q => ∃ (a : Addr) (ys : List V) (y : V), x = .ref a ∧ xs = [y] ∧ SqL K H a ys ∧ flatV y = true ∧ ys.all flatV = true ∧ Q (.int ((ys.countP (fun z => eqV z y) : Nat) : Int)) H
theorem mt_countB {X : Cx} : MtR X "list.count" (rCntF X.K) := by
  intro pins s σ H x xs v us Q I rx rxs h
  obtain ⟨a, ys, y, rfl, rfl, hs, fy, fys, q⟩ := h
  cases rx
  obtain ⟨uy, rfl, ry⟩ := rxs.one
  obtain ⟨its, rv, ⟨⟨c1, c2, c3, c4⟩, n, ho, hc, _, hd⟩, _⟩ := I.list hs
  simp only at hc hd
  subst hc hd
  have ec : its.toArray.toList.countP (eqU y) = ys.countP fun z => eqV z y := countU rv fys
  refine call_meets PySem.F.slot_list_count ⟨_, ho, rfl⟩ PySem.F.entry_list_count (PySem.F.args_list_count_2 _ _) (SeqAt.list_countAt a its.toArray n c2 c4 uy (eqU y)) ⟨ho, fun u hu => mem_eqAt ry fy rv fys u (by simpa using hu), .int ((its.toArray.toList.countP (eqU y) : Nat) : Int), H, I.tok _, ⟨s.toks, rfl⟩, ?_⟩
  rw [ec]
  exact q
/-! ### isinstance of the error that is handled, wherever it is pinned -/
theorem callE {X : Cx} {a D : Addr} {oe : Obj} (C : ExcC X.K D) (hp : (a, oe) ∈ X.pn) (hz : Zc (.ref D) none oe) (hf : ∃ vs, oe.data = .fields vs) : CallR X (.builtin "isinstance") (rIsE X.K D a) := by
  intro pins s σ H xs us Q I r h
  obtain ⟨c, cv, b, rfl, hcv, e, q⟩ := h
  cases r with
  | cons rx rr =>
    cases rr with
    | cons rt rr =>
      cases rr
      cases rx
      obtain rfl := hcv _ rt
      have J : PySem.W.InstAt s.heap a oe D none := by
        have hg := (I.pin (a, oe) (List.mem_append_left _ hp)).1
        obtain ⟨vs, hv⟩ := hf
        obtain ⟨z1, z2⟩ := hz
        cases oe
        cases z1
        cases z2
        cases hv
        exact ⟨hg, rfl, rfl, trivial⟩
      exact PySem.W.kia_one (PySem.W.handS_kitx_exc C.hg C.hk C.hs C.hd C.ha C.hn C.ht C.hm) I.kIn J e (fun z => nomatch z) fun tk => ⟨.bl b, H, I.kept (t' := tk) fun _ _ z => z, rfl, q⟩
/-! ### a def of one parameter that is handed the error that is handled -/
structure PinFn (P : Program) (w : World) (K : PySem.W.Frag) (mg : PySem.Str → Option Value) (base : Heap) (k : Nat) (f : Addr) (p : Addr × Obj) (r : V) : Prop where
  run : ∀ (A : Around) (outer : List Env) (s : Shared) (H : Hp) (Q : VK) (args : Args), L2H.RoomH k A → L2H.PinOk outer H s p → Env0 P w K mg base A outer s H → (∀ H', Ex H H' → Q r H') → args = ⟨[.ref p.1], []⟩ →
    codeAny (model P w) A (.call (.ref f) args) (CR CX0 outer P w H s Q fun _ _ _ => False) s
theorem pinFn {P : Program} {w : World} {K : PySem.W.Frag} {mg : PySem.Str → Option Value} {base : Heap} {k : Nat} {f : Addr} {fd : FuncData} {x prm : PySem.Str} {st : Stmt} {N : List PySem.Str} {p : Addr × Obj} {r : V}
    (F : Fun K x x st f fd) (S : FnScope N [prm] (defScope st)) (bd : L2.Binds K fd [prm] [])
    (body : ∀ (cdv : Value) (A : Around) (outer : List Env) (s : Shared) (H : Hp), L2H.RoomH k (A.deeper (envOfC x (defScope st) s.heap.objs.size f cdv)) →
      ∃ t, PSs (L2H.cxH CX0 P w K mg base N x (defScope st) f cdv A outer s H (fun _ _ _ => False) p).nox (defBody st) t ∧ ∀ Q : VK, (∀ H', Ex H H' → Q r H') → t { nx := fun _ H' => Q .non H', rt := Q } (L2.start N [.ref p.1]) H) : PinFn P w K mg base (k + 1) f p r := by
  refine ⟨fun A outer s H Q args hr hpin e0 hq hargs => ?_⟩
  subst hargs
  obtain ⟨oc, od, kV, doc, pm, an, cdv, ct, osl, rfl, lk, hcd⟩ := F.ex
  have kin : K.In s.heap := e0.mod.kin.keeps fun b o e => (e0.bs b o e).1
  have vals : Vals [V.ref p.1] [Value.ref p.1] := .cons rfl .nil
  have bnd := bd s [.ref p.1] kin rfl
  rw [List.append_nil] at bnd
  refine codeAny_call_function hr.depth (kin _ _ lk) rfl S.co S.gen rfl (PySem.W.codeRec_of kin hcd) (bnd _ _ _ _ ?_)
  refine wpAny_newFunctionEnv_cells S.kind (fun y hy => ?_) (fun env he s1 x1 => ?_)
  · have hy1 : y.1 ∈ [prm] := (List.of_mem_zip (show (y.1, y.2) ∈ [prm].zip [Value.ref p.1] from hy)).1
    exact (S.par y.1 hy1).elim Or.inl fun q => Or.inr ⟨q, PySem.W.cellsFrom_some _ _ _ (Or.inl q)⟩
  subst he
  obtain ⟨t, ht, hb⟩ := body cdv A outer s H (hr.deeper _)
  have I0 : L2.Inv (L2H.cxH CX0 P w K mg base N x (defScope st) f cdv A outer s H (fun _ _ _ => False) p) [] (L2.start N [.ref p.1]) H s1 := L2H.inv_startH S hpin e0 rfl vals x1
  have lim : s.heap.NoLimit := e0.mod.nolimit.keeps fun b o e => (e0.bs b o e).1
  refine ⟨lim.keeps x1.toInCall.keep, codeAny_func (wpAny_mono ((PSs.nox ht).run [] s1 _ H _ I0 (hb Q hq)) (fun fl s2 hs => ?_) fun _ _ z => z)⟩
  have done : ∀ {σ2 : L2.St} {H2 : Hp} {v : V} {u : Value}, L2.Inv (L2H.cxH CX0 P w K mg base N x (defScope st) f cdv A outer s H (fun _ _ _ => False) p) [] σ2 H2 s2 → RelV v u → Q v H2 → CE outer P w H s Q u s2 := fun J rv q => ⟨_, _, J.os, J.bare, J.base, J.hok, rv, q⟩
  cases fl with
  | ret u =>
    obtain ⟨v, σ2, H2, J, rv, q⟩ := hs
    exact done J rv q
  | next =>
    obtain ⟨σ2, H2, J, q⟩ := hs
    exact done (v := .non) J rfl q
  | brk => exact hs.elim fun _ ⟨_, _, q⟩ => q.elim
  | cont => exact hs.elim fun _ ⟨_, _, q⟩ => q.elim
/-- its call in the suite -/
def tPin (a : Addr) (C : V → Prop) (ta : TA) : TE := fun σ H Q => ta σ H fun vs H1 => vs = [.ref a] ∧ ∃ r, C r ∧ ∀ H', Ex H1 H' → Q r H'
theorem pe_pin {X : Cx} {k : Nat} {x : PySem.Str} {f a : Addr} {oe : Obj} {C : V → Prop} {e : Expr} {ta : TA} {q pos : Pos} (F : ∀ r, C r → PinFn X.prog X.w X.K X.mg X.base k f (a, oe) r) (hr : L2H.RoomH k X.A) (hp : (a, oe) ∈ X.pn) (hg : Gl X x) (hm : X.mg x = some (.ref f)) (hk : PySem.W.keepIn X.K (.ref f) = true)
    (ha : PA X [e] ta) (hdb : (x == ("__debug__" : PySem.Str)) = false := by decide) (he : starEach [e] X.env = (false, eval e X.env) :: starEach [] X.env := by rfl) (hpl : (backTo pos (starEach [] X.env)).any (·.1) = false := by rfl) :
    PE X (.Call (.Name x q) [e] [] pos) (tPin a C ta) := by
  refine ⟨fun pins s σ H Q I h => ?_⟩
  refine wpAny_Call_Name_kw (ld_glob I hg hm ?_ hdb)
  refine PySem.W.callWith_K (h₀ := X.base) I.ok.mod.kin hk (thn (ha.run pos pins s σ H _ I h) fun us s1 hh => ?_) he hpl
  obtain ⟨vs, H1, I1, rv, rfl, r, hC, q1⟩ := hh
  refine ⟨I1.kIn, ?_⟩
  obtain ⟨u, rfl, ru⟩ := rv.one
  obtain rfl : u = Value.ref a := ru
  have p1 := I1.pin (a, oe) (List.mem_append_left _ hp)
  have pk : L2H.PinOk X.stack H1 s1 (a, oe) := ⟨p1.1, p1.2.1, fun hm => (List.mem_cons.mp (I1.stkSub a hm)).elim p1.2.2.1 p1.2.2.2.1, p1.2.2.2.2⟩
  refine wpAny_call (codeAny_mono ((F r hC).run X.A X.stack s1 H1 Q _ hr pk I1.env0 q1 rfl) fun rr s2 hq => ?_)
  match rr, hq with
  | .ok (.ret u), hq => exact I1.after hq
end RF
namespace RF
open PySem PySem.Spec PyProof.Rows L2 Evl
/-! ### the classes of the refusals, by number -/
structure ErrTxt (K : PySem.W.Frag) (mg : PySem.Str → Option Value) (er : Nat → Addr) : Prop where
  g0 : mg "NoPrime" = some (.ref (er 0))
  g1 : mg "NoRow" = some (.ref (er 1))
  g2 : mg "NoRule" = some (.ref (er 2))
  g3 : mg "NoPlace" = some (.ref (er 3))
  g4 : mg "TooLarge" = some (.ref (er 4))
  g5 : mg "NoTurn" = some (.ref (er 5))
  g6 : mg "NoNote" = some (.ref (er 6))
  g7 : mg "RuleError" = some (.ref (er 7))
  x : ∀ i, i < 7 → PySem.W.excIn K (er i) [.type "ValueError", .type "Exception", .type "BaseException", .type "object"] "ValueError.__new__" = true
  k : ∀ i, i < 7 → PySem.W.keepIn K (.ref (er i)) = true
  b : ∀ i, i < 7 → PySem.W.subIn K (.ref (er i)) (.type "BaseException") = some true
  t : ∀ i, i < 7 → PySem.W.typeIn K (.ref (er i)) = some (.type "type")
  e : ∀ i, i < 7 → ExcC K (er i)
  r : ∀ i, i < 7 → PySem.W.exmOne K (.ref (er i)) (.ref (er 7)) = some true
  v : ∀ i, i < 7 → PySem.W.kitOne K (.ref (er i)) (.type "ValueError") = some true
  q : ∀ i j, i < 7 → j < 7 → PySem.W.kitOne K (.ref (er i)) (.ref (er j)) = some (decide (i = j))
  m : ∀ i j, i < 2 → j < 2 → PySem.W.exmOne K (.ref (er i)) (.ref (er j)) = some (decide (i = j))
section
variable {K : PySem.W.Frag} {a b : Addr}
theorem kit_self {c : Value} : PySem.W.kitOne K c c = some true := by
  unfold PySem.W.kitOne
  rw [if_pos (by simp)]
theorem kit_other (h1 : PySem.W.subIn K (.ref b) (.ref b) = some true) (h : PySem.W.subIn K (.ref a) (.ref b) = some false) (hd : PySem.W.hasDictIn K b = true) (ht : PySem.W.typeIn K (.ref b) = some (.type "type")) : PySem.W.kitOne K (.ref a) (.ref b) = some false := by
  have hne : (Value.ref a == Value.ref b) = false := by
    refine beq_eq_false_iff_ne.mpr fun z => ?_
    rw [z, h1] at h
    cases h
  obtain ⟨cd, hc, _⟩ := PySem.W.any_some hd
  have e2 : ((PySem.W.clsIn K b).isSome && PySem.W.typeIn K (.ref b) == some (.type "type")) = true := by rw [hc, ht] <;> rfl
  unfold PySem.W.kitOne
  rw [hne]
  show (if ((PySem.W.clsIn K b).isSome && PySem.W.typeIn K (.ref b) == some (.type "type")) = true then PySem.W.subIn K (.ref a) (.ref b) else none) = some false
  rw [if_pos e2]
  exact h
theorem kit_val (h : PySem.W.subIn K (.ref a) (.type "ValueError") = some true) : PySem.W.kitOne K (.ref a) (.type "ValueError") = some true := by
  unfold PySem.W.kitOne
  rw [if_neg (by simp)]
  show (if PySem.W.kitMeta "ValueError" = true then PySem.W.subIn K (.ref a) (.type "ValueError") else none) = some true
  rw [if_pos (by decide +kernel)]
  exact h
end
theorem err_mk {K : PySem.W.Frag} {h : Heap} {mg : PySem.Str → Option Value} (X : K.In h) (G : h.Ns mainGlobals mg) {c0 c1 c2 c3 c4 c5 c6 c7 : Addr}
    (eg0 : PySem.W.nsIn K mainGlobals "NoPrime" = some (some (.ref c0)))
    (eg1 : PySem.W.nsIn K mainGlobals "NoRow" = some (some (.ref c1)))
    (eg2 : PySem.W.nsIn K mainGlobals "NoRule" = some (some (.ref c2)))
    (eg3 : PySem.W.nsIn K mainGlobals "NoPlace" = some (some (.ref c3)))
    (eg4 : PySem.W.nsIn K mainGlobals "TooLarge" = some (some (.ref c4)))
    (eg5 : PySem.W.nsIn K mainGlobals "NoTurn" = some (some (.ref c5)))
    (eg6 : PySem.W.nsIn K mainGlobals "NoNote" = some (some (.ref c6)))
    (eg7 : PySem.W.nsIn K mainGlobals "RuleError" = some (some (.ref c7)))
    (ex0 : PySem.W.excIn K c0 [.type "ValueError", .type "Exception", .type "BaseException", .type "object"] "ValueError.__new__" = true)
    (ek0 : PySem.W.keepIn K (.ref c0) = true)
    (eb0 : PySem.W.subIn K (.ref c0) (.type "BaseException") = some true)
    (et0 : PySem.W.typeIn K (.ref c0) = some (.type "type"))
    (e10 : PySem.W.findIn K (.ref c0) "__getattribute__" = some (some (.builtin "BaseException.__getattribute__")))
    (e20 : PySem.W.findIn K (.ref c0) "__getattr__" = some none)
    (e30 : PySem.W.hasDictIn K c0 = true)
    (e40 : PySem.W.findIn K (.ref c0) "__class__" = some (some (.builtin "object.__class__")))
    (e70 : PySem.W.mroIn K c0 (.type "object") = some true)
    (er0 : PySem.W.subIn K (.ref c0) (.ref c7) = some true)
    (ev0 : PySem.W.subIn K (.ref c0) (.type "ValueError") = some true)
    (eq00 : PySem.W.subIn K (.ref c0) (.ref c0) = some true)
    (eq01 : PySem.W.subIn K (.ref c0) (.ref c1) = some false)
    (eq02 : PySem.W.subIn K (.ref c0) (.ref c2) = some false)
    (eq03 : PySem.W.subIn K (.ref c0) (.ref c3) = some false)
    (eq04 : PySem.W.subIn K (.ref c0) (.ref c4) = some false)
    (eq05 : PySem.W.subIn K (.ref c0) (.ref c5) = some false)
    (eq06 : PySem.W.subIn K (.ref c0) (.ref c6) = some false)
    (ex1 : PySem.W.excIn K c1 [.type "ValueError", .type "Exception", .type "BaseException", .type "object"] "ValueError.__new__" = true)
    (ek1 : PySem.W.keepIn K (.ref c1) = true)
    (eb1 : PySem.W.subIn K (.ref c1) (.type "BaseException") = some true)
    (et1 : PySem.W.typeIn K (.ref c1) = some (.type "type"))
    (e11 : PySem.W.findIn K (.ref c1) "__getattribute__" = some (some (.builtin "BaseException.__getattribute__")))
    (e21 : PySem.W.findIn K (.ref c1) "__getattr__" = some none)
    (e31 : PySem.W.hasDictIn K c1 = true)
    (e41 : PySem.W.findIn K (.ref c1) "__class__" = some (some (.builtin "object.__class__")))
    (e71 : PySem.W.mroIn K c1 (.type "object") = some true)
    (er1 : PySem.W.subIn K (.ref c1) (.ref c7) = some true)
    (ev1 : PySem.W.subIn K (.ref c1) (.type "ValueError") = some true)
    (eq10 : PySem.W.subIn K (.ref c1) (.ref c0) = some false)
    (eq11 : PySem.W.subIn K (.ref c1) (.ref c1) = some true)
    (eq12 : PySem.W.subIn K (.ref c1) (.ref c2) = some false)
    (eq13 : PySem.W.subIn K (.ref c1) (.ref c3) = some false)
    (eq14 : PySem.W.subIn K (.ref c1) (.ref c4) = some false)
    (eq15 : PySem.W.subIn K (.ref c1) (.ref c5) = some false)
    (eq16 : PySem.W.subIn K (.ref c1) (.ref c6) = some false)
    (ex2 : PySem.W.excIn K c2 [.type "ValueError", .type "Exception", .type "BaseException", .type "object"] "ValueError.__new__" = true)
    (ek2 : PySem.W.keepIn K (.ref c2) = true)
    (eb2 : PySem.W.subIn K (.ref c2) (.type "BaseException") = some true)
    (et2 : PySem.W.typeIn K (.ref c2) = some (.type "type"))
    (e12 : PySem.W.findIn K (.ref c2) "__getattribute__" = some (some (.builtin "BaseException.__getattribute__")))
    (e22 : PySem.W.findIn K (.ref c2) "__getattr__" = some none)
    (e32 : PySem.W.hasDictIn K c2 = true)
    (e42 : PySem.W.findIn K (.ref c2) "__class__" = some (some (.builtin "object.__class__")))
    (e72 : PySem.W.mroIn K c2 (.type "object") = some true)
    (er2 : PySem.W.subIn K (.ref c2) (.ref c7) = some true)
    (ev2 : PySem.W.subIn K (.ref c2) (.type "ValueError") = some true)
    (eq20 : PySem.W.subIn K (.ref c2) (.ref c0) = some false)
    (eq21 : PySem.W.subIn K (.ref c2) (.ref c1) = some false)
    (eq22 : PySem.W.subIn K (.ref c2) (.ref c2) = some true)
    (eq23 : PySem.W.subIn K (.ref c2) (.ref c3) = some false)
    (eq24 : PySem.W.subIn K (.ref c2) (.ref c4) = some false)
    (eq25 : PySem.W.subIn K (.ref c2) (.ref c5) = some false)
    (eq26 : PySem.W.subIn K (.ref c2) (.ref c6) = some false)
    (ex3 : PySem.W.excIn K c3 [.type "ValueError", .type "Exception", .type "BaseException", .type "object"] "ValueError.__new__" = true)
    (ek3 : PySem.W.keepIn K (.ref c3) = true)
    (eb3 : PySem.W.subIn K (.ref c3) (.type "BaseException") = some true)
    (et3 : PySem.W.typeIn K (.ref c3) = some (.type "type"))
    (e13 : PySem.W.findIn K (.ref c3) "__getattribute__" = some (some (.builtin "BaseException.__getattribute__")))
    (e23 : PySem.W.findIn K (.ref c3) "__getattr__" = some none)
    (e33 : PySem.W.hasDictIn K c3 = true)
    (e43 : PySem.W.findIn K (.ref c3) "__class__" = some (some (.builtin "object.__class__")))
    (e73 : PySem.W.mroIn K c3 (.type "object") = some true)
    (er3 : PySem.W.subIn K (.ref c3) (.ref c7) = some true)
    (ev3 : PySem.W.subIn K (.ref c3) (.type "ValueError") = some true)
    (eq30 : PySem.W.subIn K (.ref c3) (.ref c0) = some false)
    (eq31 : PySem.W.subIn K (.ref c3) (.ref c1) = some false)
    (eq32 : PySem.W.subIn K (.ref c3) (.ref c2) = some false)
    (eq33 : PySem.W.subIn K (.ref c3) (.ref c3) = some true)
    (eq34 : PySem.W.subIn K (.ref c3) (.ref c4) = some false)
    (eq35 : PySem.W.subIn K (.ref c3) (.ref c5) = some false)
    (eq36 : PySem.W.subIn K (.ref c3) (.ref c6) = some false)
    (ex4 : PySem.W.excIn K c4 [.type "ValueError", .type "Exception", .type "BaseException", .type "object"] "ValueError.__new__" = true)
    (ek4 : PySem.W.keepIn K (.ref c4) = true)
    (eb4 : PySem.W.subIn K (.ref c4) (.type "BaseException") = some true)
    (et4 : PySem.W.typeIn K (.ref c4) = some (.type "type"))
    (e14 : PySem.W.findIn K (.ref c4) "__getattribute__" = some (some (.builtin "BaseException.__getattribute__")))
    (e24 : PySem.W.findIn K (.ref c4) "__getattr__" = some none)
    (e34 : PySem.W.hasDictIn K c4 = true)
    (e44 : PySem.W.findIn K (.ref c4) "__class__" = some (some (.builtin "object.__class__")))
    (e74 : PySem.W.mroIn K c4 (.type "object") = some true)
    (er4 : PySem.W.subIn K (.ref c4) (.ref c7) = some true)
    (ev4 : PySem.W.subIn K (.ref c4) (.type "ValueError") = some true)
    (eq40 : PySem.W.subIn K (.ref c4) (.ref c0) = some false)
    (eq41 : PySem.W.subIn K (.ref c4) (.ref c1) = some false)
    (eq42 : PySem.W.subIn K (.ref c4) (.ref c2) = some false)
    (eq43 : PySem.W.subIn K (.ref c4) (.ref c3) = some false)
    (eq44 : PySem.W.subIn K (.ref c4) (.ref c4) = some true)
    (eq45 : PySem.W.subIn K (.ref c4) (.ref c5) = some false)
    (eq46 : PySem.W.subIn K (.ref c4) (.ref c6) = some false)
    (ex5 : PySem.W.excIn K c5 [.type "ValueError", .type "Exception", .type "BaseException", .type "object"] "ValueError.__new__" = true)
    (ek5 : PySem.W.keepIn K (.ref c5) = true)
    (eb5 : PySem.W.subIn K (.ref c5) (.type "BaseException") = some true)
    (et5 : PySem.W.typeIn K (.ref c5) = some (.type "type"))
    (e15 : PySem.W.findIn K (.ref c5) "__getattribute__" = some (some (.builtin "BaseException.__getattribute__")))
    (e25 : PySem.W.findIn K (.ref c5) "__getattr__" = some none)
    (e35 : PySem.W.hasDictIn K c5 = true)
    (e45 : PySem.W.findIn K (.ref c5) "__class__" = some (some (.builtin "object.__class__")))
    (e75 : PySem.W.mroIn K c5 (.type "object") = some true)
    (er5 : PySem.W.subIn K (.ref c5) (.ref c7) = some true)
    (ev5 : PySem.W.subIn K (.ref c5) (.type "ValueError") = some true)
    (eq50 : PySem.W.subIn K (.ref c5) (.ref c0) = some false)
    (eq51 : PySem.W.subIn K (.ref c5) (.ref c1) = some false)
    (eq52 : PySem.W.subIn K (.ref c5) (.ref c2) = some false)
    (eq53 : PySem.W.subIn K (.ref c5) (.ref c3) = some false)
    (eq54 : PySem.W.subIn K (.ref c5) (.ref c4) = some false)
    (eq55 : PySem.W.subIn K (.ref c5) (.ref c5) = some true)
    (eq56 : PySem.W.subIn K (.ref c5) (.ref c6) = some false)
    (ex6 : PySem.W.excIn K c6 [.type "ValueError", .type "Exception", .type "BaseException", .type "object"] "ValueError.__new__" = true)
    (ek6 : PySem.W.keepIn K (.ref c6) = true)
    (eb6 : PySem.W.subIn K (.ref c6) (.type "BaseException") = some true)
    (et6 : PySem.W.typeIn K (.ref c6) = some (.type "type"))
    (e16 : PySem.W.findIn K (.ref c6) "__getattribute__" = some (some (.builtin "BaseException.__getattribute__")))
    (e26 : PySem.W.findIn K (.ref c6) "__getattr__" = some none)
    (e36 : PySem.W.hasDictIn K c6 = true)
    (e46 : PySem.W.findIn K (.ref c6) "__class__" = some (some (.builtin "object.__class__")))
    (e76 : PySem.W.mroIn K c6 (.type "object") = some true)
    (er6 : PySem.W.subIn K (.ref c6) (.ref c7) = some true)
    (ev6 : PySem.W.subIn K (.ref c6) (.type "ValueError") = some true)
    (eq60 : PySem.W.subIn K (.ref c6) (.ref c0) = some false)
    (eq61 : PySem.W.subIn K (.ref c6) (.ref c1) = some false)
    (eq62 : PySem.W.subIn K (.ref c6) (.ref c2) = some false)
    (eq63 : PySem.W.subIn K (.ref c6) (.ref c3) = some false)
    (eq64 : PySem.W.subIn K (.ref c6) (.ref c4) = some false)
    (eq65 : PySem.W.subIn K (.ref c6) (.ref c5) = some false)
    (eq66 : PySem.W.subIn K (.ref c6) (.ref c6) = some true)
    (eb7 : PySem.W.subIn K (.ref c7) (.type "BaseException") = some true)
    (et7 : PySem.W.typeIn K (.ref c7) = some (.type "type"))
    (e37 : PySem.W.hasDictIn K c7 = true)
    (e5 : PySem.W.specialIn K (.builtin "object.__class__") "__get__" = some (some (.builtin "getset_descriptor.__get__")))
    (e6 : PySem.W.takesIn K (.builtin "object.__class__") = some true)
    : ErrTxt K mg fun i => [c0, c1, c2, c3, c4, c5, c6, c7].getD i 0 :=
  ⟨PySem.W.mg_of X G eg0, PySem.W.mg_of X G eg1, PySem.W.mg_of X G eg2, PySem.W.mg_of X G eg3, PySem.W.mg_of X G eg4, PySem.W.mg_of X G eg5, PySem.W.mg_of X G eg6, PySem.W.mg_of X G eg7, (fun i hi => match i, hi with | 0, _ => ex0 | 1, _ => ex1 | 2, _ => ex2 | 3, _ => ex3 | 4, _ => ex4 | 5, _ => ex5 | 6, _ => ex6 | n + 7, h => absurd h (by omega)), (fun i hi => match i, hi with | 0, _ => ek0 | 1, _ => ek1 | 2, _ => ek2 | 3, _ => ek3 | 4, _ => ek4 | 5, _ => ek5 | 6, _ => ek6 | n + 7, h => absurd h (by omega)), (fun i hi => match i, hi with | 0, _ => eb0 | 1, _ => eb1 | 2, _ => eb2 | 3, _ => eb3 | 4, _ => eb4 | 5, _ => eb5 | 6, _ => eb6 | n + 7, h => absurd h (by omega)), (fun i hi => match i, hi with | 0, _ => et0 | 1, _ => et1 | 2, _ => et2 | 3, _ => et3 | 4, _ => et4 | 5, _ => et5 | 6, _ => et6 | n + 7, h => absurd h (by omega)), (fun i hi => match i, hi with | 0, _ => ⟨e10, e20, eb0, e30, e40, e5, e6, e70⟩ | 1, _ => ⟨e11, e21, eb1, e31, e41, e5, e6, e71⟩ | 2, _ => ⟨e12, e22, eb2, e32, e42, e5, e6, e72⟩ | 3, _ => ⟨e13, e23, eb3, e33, e43, e5, e6, e73⟩ | 4, _ => ⟨e14, e24, eb4, e34, e44, e5, e6, e74⟩ | 5, _ => ⟨e15, e25, eb5, e35, e45, e5, e6, e75⟩ | 6, _ => ⟨e16, e26, eb6, e36, e46, e5, e6, e76⟩ | n + 7, h => absurd h (by omega)), (fun i hi => match i, hi with | 0, _ => PySem.W.exm_ref eb7 e37 et7 er0 | 1, _ => PySem.W.exm_ref eb7 e37 et7 er1 | 2, _ => PySem.W.exm_ref eb7 e37 et7 er2 | 3, _ => PySem.W.exm_ref eb7 e37 et7 er3 | 4, _ => PySem.W.exm_ref eb7 e37 et7 er4 | 5, _ => PySem.W.exm_ref eb7 e37 et7 er5 | 6, _ => PySem.W.exm_ref eb7 e37 et7 er6 | n + 7, h => absurd h (by omega)), (fun i hi => match i, hi with | 0, _ => kit_val ev0 | 1, _ => kit_val ev1 | 2, _ => kit_val ev2 | 3, _ => kit_val ev3 | 4, _ => kit_val ev4 | 5, _ => kit_val ev5 | 6, _ => kit_val ev6 | n + 7, h => absurd h (by omega)), (fun i j hi hj => match i, j, hi, hj with | 0, 0, _, _ => kit_self | 0, 1, _, _ => kit_other eq11 eq01 e31 et1 | 0, 2, _, _ => kit_other eq22 eq02 e32 et2 | 0, 3, _, _ => kit_other eq33 eq03 e33 et3 | 0, 4, _, _ => kit_other eq44 eq04 e34 et4 | 0, 5, _, _ => kit_other eq55 eq05 e35 et5 | 0, 6, _, _ => kit_other eq66 eq06 e36 et6 | 1, 0, _, _ => kit_other eq00 eq10 e30 et0 | 1, 1, _, _ => kit_self | 1, 2, _, _ => kit_other eq22 eq12 e32 et2 | 1, 3, _, _ => kit_other eq33 eq13 e33 et3 | 1, 4, _, _ => kit_other eq44 eq14 e34 et4 | 1, 5, _, _ => kit_other eq55 eq15 e35 et5 | 1, 6, _, _ => kit_other eq66 eq16 e36 et6 | 2, 0, _, _ => kit_other eq00 eq20 e30 et0 | 2, 1, _, _ => kit_other eq11 eq21 e31 et1 | 2, 2, _, _ => kit_self | 2, 3, _, _ => kit_other eq33 eq23 e33 et3 | 2, 4, _, _ => kit_other eq44 eq24 e34 et4 | 2, 5, _, _ => kit_other eq55 eq25 e35 et5 | 2, 6, _, _ => kit_other eq66 eq26 e36 et6 | 3, 0, _, _ => kit_other eq00 eq30 e30 et0 | 3, 1, _, _ => kit_other eq11 eq31 e31 et1 | 3, 2, _, _ => kit_other eq22 eq32 e32 et2 | 3, 3, _, _ => kit_self | 3, 4, _, _ => kit_other eq44 eq34 e34 et4 | 3, 5, _, _ => kit_other eq55 eq35 e35 et5 | 3, 6, _, _ => kit_other eq66 eq36 e36 et6 | 4, 0, _, _ => kit_other eq00 eq40 e30 et0 | 4, 1, _, _ => kit_other eq11 eq41 e31 et1 | 4, 2, _, _ => kit_other eq22 eq42 e32 et2 | 4, 3, _, _ => kit_other eq33 eq43 e33 et3 | 4, 4, _, _ => kit_self | 4, 5, _, _ => kit_other eq55 eq45 e35 et5 | 4, 6, _, _ => kit_other eq66 eq46 e36 et6 | 5, 0, _, _ => kit_other eq00 eq50 e30 et0 | 5, 1, _, _ => kit_other eq11 eq51 e31 et1 | 5, 2, _, _ => kit_other eq22 eq52 e32 et2 | 5, 3, _, _ => kit_other eq33 eq53 e33 et3 | 5, 4, _, _ => kit_other eq44 eq54 e34 et4 | 5, 5, _, _ => kit_self | 5, 6, _, _ => kit_other eq66 eq56 e36 et6 | 6, 0, _, _ => kit_other eq00 eq60 e30 et0 | 6, 1, _, _ => kit_other eq11 eq61 e31 et1 | 6, 2, _, _ => kit_other eq22 eq62 e32 et2 | 6, 3, _, _ => kit_other eq33 eq63 e33 et3 | 6, 4, _, _ => kit_other eq44 eq64 e34 et4 | 6, 5, _, _ => kit_other eq55 eq65 e35 et5 | 6, 6, _, _ => kit_self | n + 7, _, h, _ => absurd h (by omega) | 0, n + 7, _, h => absurd h (by omega) | 1, n + 7, _, h => absurd h (by omega) | 2, n + 7, _, h => absurd h (by omega) | 3, n + 7, _, h => absurd h (by omega) | 4, n + 7, _, h => absurd h (by omega) | 5, n + 7, _, h => absurd h (by omega) | 6, n + 7, _, h => absurd h (by omega)), (fun i j hi hj => match i, j, hi, hj with | 0, 0, _, _ => PySem.W.exm_ref eb0 e30 et0 eq00 | 0, 1, _, _ => PySem.W.exm_ref eb1 e31 et1 eq01 | 1, 0, _, _ => PySem.W.exm_ref eb0 e30 et0 eq10 | 1, 1, _, _ => PySem.W.exm_ref eb1 e31 et1 eq11 | n + 2, _, h, _ => absurd h (by omega) | 0, n + 2, _, h => absurd h (by omega) | 1, n + 2, _, h => absurd h (by omega))⟩
/-! ### defs that may raise -/
structure DefX (P : Program) (w : World) (K : PySem.W.Frag) (mg : PySem.Str → Option Value) (base : Heap) (k : Nat) (x : PySem.Str) (ps : List PySem.Str) (sp : Sp) : Prop where
  ex : ∃ f fd, mg x = some (.ref f) ∧ PySem.W.keepIn K (.ref f) = true ∧ L2.Binds K fd ps [] ∧ FnOk P w K mg base (CX P w) k f fd ps sp
theorem DefAt.okX {P : Program} {w : World} {K : PySem.W.Frag} {mg : PySem.Str → Option Value} {base : Heap} {x : PySem.Str} {st : Stmt} {N ps : List PySem.Str} {k : Nat} {sp : Sp} (A : DefAt K mg x st ps) (S : FnScope N ps (defScope st)) (len : ∀ vs H Q E, sp vs H Q E → vs.length = ps.length)
    (hbody : ∀ (f : Addr) (cdv : Value) (A : Around) (outer : List Env) (s : Shared) (H : Hp) (vs : List V) (Q : VK) (E : XK), Room k (A.deeper (envOfC x (defScope st) s.heap.objs.size f cdv)) → sp vs H Q E →
      ∃ t, PSs (cxOf (CX P w) P w K mg base N x (defScope st) f cdv A outer s H E) (defBody st) t ∧ t { nx := fun _ H' => Q .non H', rt := Q } (L2.start N vs) H) : DefX P w K mg base (k + 1) x ps sp := by
  obtain ⟨f, fd, hm, F, b⟩ := A.ex
  exact ⟨f, fd, hm, F.kp, b, F.okX S len (hbody f)⟩
/-- what is raised: the class by number, nothing else is said -/
def spE (K : PySem.W.Frag) (er : Nat → Addr) (R : List PyData → Nat → Prop) : Sp := fun vs H _ E => ∃ ds i, DpAll K H vs ds ∧ R ds i ∧ i < 7 ∧ ∀ H', Ex H H' → E (.ref (er i)) none H'
theorem pe_cdx {X : Cx} {k : Nat} {x : PySem.Str} {ps : List PySem.Str} {sp : Sp} {W : WX} {e : Expr} {es : List Expr} {t : TA} {p pos : Pos} (D : DefX X.prog X.w X.K X.mg X.base k x ps sp) (hr : Room k X.A) (hg : Gl X x) (tk : Takes X W) (ha : PA X (e :: es) t)
    (hdb : (x == ("__debug__" : PySem.Str)) = false := by decide) (he : starEach (e :: es) X.env = (false, eval e X.env) :: starEach es X.env := by rfl) (hpl : (backTo pos (starEach es X.env)).any (·.1) = false := by rfl) :
    PE X (.Call (.Name x p) (e :: es) [] pos) (tCallS sp (WE W) t) := by
  obtain ⟨f, fd, hm, kp, b, F⟩ := D.ex
  exact pe_callS F hr hg hm kp b (fun σ => passAt tk σ) ha hdb he hpl
section
variable {K : PySem.W.Frag} {σ : L2.St} {H : Hp} {ta : TA} {ds : List PyData} {R : List PyData → Nat → Prop} {er : Nat → Addr} {i j : Nat} {W : WX} {D : Ends} {tz : TS} {Q : VK}
theorem x_call (h : EvDA K ta σ H ds) (hR : R ds i) (hi : i < 7) (k : ∀ H1, Ex H H1 → W (.ref (er i)) none σ H1) : tCallS (spE K er R) (WE W) ta σ H Q := h H (Ex.refl H) _ fun vs H1 e hv => ⟨ds, i, hv, hR, hi, fun H2 e2 => k H2 (e.trans e2)⟩
theorem q_dropX (h : EvDA K ta σ H ds) (hR : R ds i) (hi : i < 7) (k : ∀ H1, Ex H H1 → W (.ref (er i)) none σ H1) : tSeq (tDrop (tCallS (spE K er R) (WE W) ta)) tz D σ H := x_call h hR hi k
theorem s_dropX (h : EvDA K ta σ H ds) (hR : R ds i) (hi : i < 7) (k : ∀ H1, Ex H H1 → W (.ref (er i)) none σ H1) : tDrop (tCallS (spE K er R) (WE W) ta) D σ H := x_call h hR hi k
theorem s_retX (h : EvDA K ta σ H ds) (hR : R ds i) (hi : i < 7) (k : ∀ H1, Ex H H1 → W (.ref (er i)) none σ H1) : tRet (tCallS (spE K er R) (WE W) ta) D σ H := x_call h hR hi k
end
/-- raise X("..") -/
theorem ps_raiseE {X : Cx} {er : Nat → Addr} {W : WX} {i : Nat} {x m : PySem.Str} {j : Nat} {p p2 pos pos2 : Pos} (hc : X.calm = true) (tk : Takes X W) (T : ErrTxt X.K X.mg er) (hi : i < 7) (hm : X.mg x = some (.ref (er i))) (hg : Gl X x) (hdb : (x == ("__debug__" : PySem.Str)) = false := by decide) :
    PS X (.Raise (some (.Call (.Name x p) [.Constant (.str m) j p2] [] pos)) none pos2) (fun _ σ H => W (.ref (er i)) none σ H) :=
  ps_raise hc tk (pmk_own PySem.F.excBase_ValueError (T.x i hi) hm (T.k i hi) (raises_own (T.b i hi) (T.t i hi)) hg hdb)
/-- isinstance of it -/
theorem ev_isE {K : PySem.W.Frag} {σ : L2.St} {H : Hp} {te : TE} {a D : Addr} {c : V} {cv : Value} {b : Bool} (h : Ev te σ H (.ref a)) (hcv : ∀ u, RelV c u → u = cv) (e : PySem.W.kitOne K (.ref D) cv = some b) : Ev (tCB (rIsE K D a) (tCons te (tCons (tC c) tNil))) σ H (.bl b) := fun H1 e1 Q q => h H1 e1 _ fun H2 e2 => ⟨c, cv, b, rfl, hcv, e, q H2 e2⟩
theorem ev_cntB {K : PySem.W.Frag} {σ : L2.St} {H : Hp} {ta tb : TE} {a : Addr} {ys : List V} {y : V} (h : Ev ta σ H (.ref a)) (hs : H a = some (.lst ys)) (h2 : Ev tb σ H y) (fy : flatV y = true) (fys : ys.all flatV = true) : Ev (tBM K "list" (rCntF K) ta (tCons tb tNil)) σ H (.int ((ys.countP (fun z => eqV z y) : Nat) : Int)) := fun H1 e Q q =>
  h H1 e _ fun H2 e2 => ⟨Or.inl ⟨rfl, _, sq_of ((e.trans e2) _ _ hs)⟩, h2 H2 (e.trans e2) _ fun H3 e3 => ⟨a, ys, y, rfl, rfl, sq_of (((e.trans e2).trans e3) _ _ hs), fy, fys, q H3 (e2.trans e3)⟩⟩
theorem ev_idxB {K : PySem.W.Frag} {σ : L2.St} {H : Hp} {ta tb : TE} {a : Addr} {ys : List V} {y z : V} {j : Nat} (h : Ev ta σ H (.ref a)) (hs : H a = some (.lst ys)) (h2 : Ev tb σ H y) (fy : flatV y = true) (fys : ys.all flatV = true) (hj : ys[j]? = some z) (hz : eqV z y = true) (hno : ∀ (m : Nat) (z' : V), m < j → ys[m]? = some z' → eqV z' y = false) : Ev (tBM K "list" (rIndex K) ta (tCons tb tNil)) σ H (.int (j : Int)) := fun H1 e Q q =>
  h H1 e _ fun H2 e2 => ⟨Or.inl ⟨rfl, _, sq_of ((e.trans e2) _ _ hs)⟩, h2 H2 (e.trans e2) _ fun H3 e3 => ⟨a, ys, y, j, z, rfl, rfl, sq_of (((e.trans e2).trans e3) _ _ hs), fy, fys, hj, hz, hno, q H3 (e2.trans e3)⟩⟩
def kindN (i : Nat) : PySem.Str := (["prime", "row", "rule", "place", "large", "turn", "note"] : List PySem.Str).getD i "other"
/-- _law_kind(e) in the suite, e's class found there -/
def KindC (er : Nat → Addr) (cls : Value) (d : Option Addr) (r : V) : Prop := ∃ i, i < 7 ∧ cls = .ref (er i) ∧ d = none ∧ r = .str (kindN i)
theorem kind_pins {P : Program} {w : World} {K : PySem.W.Frag} {mg : PySem.Str → Option Value} {base : Heap} {er : Nat → Addr} {k : Nat} {f a : Addr} {oe : Obj} {cls : Value} {d : Option Addr} (F : ∀ i, i < 7 → Zc (.ref (er i)) none oe → PinFn P w K mg base k f (a, oe) (.str (kindN i))) (hz : Zc cls d oe) : ∀ r, KindC er cls d r → PinFn P w K mg base k f (a, oe) r := fun r ⟨i, hi, h1, h2, h3⟩ => by
  subst h1 h2 h3
  exact F i hi hz
end RF
namespace RF
/-! ### what is refused, and how -/
def eRow (p : Int) (row : List Int) (i : Nat) : Prop := (isPrime p = false ∧ i = 0) ∨ (isPrime p = true ∧ areNums p row = false ∧ i = 1)
def eRule (p : Int) (row : List Int) (i : Nat) : Prop := (isPrime p = false ∧ i = 0) ∨ (isPrime p = true ∧ areNums p row = false ∧ i = 2)
def okR (p : Int) (row : List Int) : Prop := isPrime p = true ∧ areNums p row = true
theorem prime_facts {p : Int} (h : isPrime p = true) : 2 ≤ p ∧ p ≤ 97 := by
  unfold isPrime at h
  by_cases z : (decide (2 ≤ p) && decide (p ≤ 97)) = true
  · rw [Bool.and_eq_true, decide_eq_true_eq, decide_eq_true_eq] at z
    exact z
  · rw [if_neg z] at h
    cases h
theorem prime_mem {p : Int} (h : isPrime p = true) : p ∈ primes := by
  have b := prime_facts h
  have a : ((List.range 98).all fun n => !isPrime ((n : Nat) : Int) || decide (((n : Nat) : Int) ∈ primes)) = true := by decide +kernel
  have c := (List.all_eq_true.mp a) p.toNat (List.mem_range.mpr (by omega))
  rw [Int.toNat_of_nonneg (by omega), h] at c
  exact of_decide_eq_true (by simpa using c)
theorem areNums_facts {p : Int} {ns : List Int} (h : areNums p ns = true) : ns.length ≤ 30 ∧ Nums p ns := by
  unfold areNums at h
  rw [Bool.and_eq_true, decide_eq_true_eq, List.all_eq_true] at h
  refine ⟨by omega, fun x hx => ?_⟩
  have := h.2 _ (List.mem_map.mpr ⟨x, hx, rfl⟩)
  simpa using this
end RF
namespace RF
open PySem PySem.Spec PyProof.Rows L2 Evl
theorem s_dropL {te : TE} {σ : L2.St} {H : Hp} {xs : List V} {D : Ends} (h : EvL te σ H xs) (k : ∀ H1, Ex H H1 → D.nx σ H1) : tDrop te D σ H := h H (Ex.refl H) _ fun _ H1 _ e _ => k H1 e
/-- which refusal law k15 waits for -/
def lastBad (rule : List Int) : Prop := 1 ≤ rule.length ∧ lastI rule = 0
instance (rule : List Int) : Decidable (lastBad rule) := by unfold lastBad; exact inferInstance
def dueI (turn p : Int) (rule other : List Int) (many : Int) : Option Nat :=
  if turn = 0 then (if 0 ≤ many ∧ many ≤ 30 then none else some 3)
  else if turn = 1 then (if rule.length + other.length ≤ 30 then none else some 4)
  else if turn = 2 then (if lastBad rule then some 5 else none)
  else if turn = 3 then (if lastBad rule then some 5 else if pw p rule.length ≤ 2000 then none else some 4)
  else (if 8 < rule.length then some 4 else if 0 ≤ many ∧ many ≤ 100000000000000000000000000000 then none else some 3)
def dueText : Option Nat → PySem.Str
  | none => "done"
  | some i => kindN i
theorem dueI_lt {turn p : Int} {rule other : List Int} {many : Int} {i : Nat} (h : dueI turn p rule other many = some i) : i < 7 := by
  unfold dueI at h
  repeat' split at h
  all_goals first | (have := Option.some.inj h; omega) | cases h
def F__law_tried15 (xs : List PyData) (v : V) : Prop := ∃ (turn p : Int) (rule other : List Int) (many : Int), xs = [.int turn, .int p, dl rule, dl other, .int many] ∧ p ∈ primes ∧ Nums p rule ∧ rule.length ≤ 30 ∧ Nums p other ∧ other.length ≤ 30 ∧ 0 ≤ turn ∧ v = .str (dueText (dueI turn p rule other many))
end RF
namespace RF
open PySem PySem.Spec PyProof.Rows L2 Evl
theorem pin_at {σ : L2.St} {H : Hp} {C : V → Prop} {ta : TA} {a : Addr} {r : V} {D : Ends} (h : EvA ta σ H [.ref a]) (hC : C r) (k : ∀ H1, Ex H H1 → D.rt r H1) : tRet (tPin a C ta) D σ H := h H (Ex.refl H) _ fun H1 e1 => ⟨rfl, r, hC, fun H2 e2 => k H2 (e1.trans e2)⟩
end RF
namespace RF
open PySem PySem.Spec PyProof.Rows L2 Evl
theorem ev_tif {σ : L2.St} {H : Hp} {t : TT} {ta tb : TE} {b : Bool} {v : V} (h : EvT t σ H b) (h1 : b = true → Ev ta σ H v) (h2 : b = false → Ev tb σ H v) : Ev (tIf t ta tb) σ H v := fun H1 e Q q => h H1 e _ fun H2 e2 => by
  cases b with
  | true => exact h1 rfl H2 (e.trans e2) Q fun H3 e3 => q H3 (e2.trans e3)
  | false => exact h2 rfl H2 (e.trans e2) Q fun H3 e3 => q H3 (e2.trans e3)
section
variable {p : Int} {rule other : List Int} {many : Int}
theorem due_0 : dueI 0 p rule other many = if 0 ≤ many ∧ many ≤ 30 then none else some 3 := if_pos rfl
theorem due_1 : dueI 1 p rule other many = if rule.length + other.length ≤ 30 then none else some 4 := by
  unfold dueI
  rw [if_neg (by decide), if_pos rfl]
theorem due_2 : dueI 2 p rule other many = if lastBad rule then some 5 else none := by
  unfold dueI
  rw [if_neg (by decide), if_neg (by decide), if_pos rfl]
theorem due_3 : dueI 3 p rule other many = if lastBad rule then some 5 else if pw p rule.length ≤ 2000 then none else some 4 := by
  unfold dueI
  rw [if_neg (by decide), if_neg (by decide), if_neg (by decide), if_pos rfl]
theorem due_4 : dueI 4 p rule other many = if 8 < rule.length then some 4 else if 0 ≤ many ∧ many ≤ 100000000000000000000000000000 then none else some 3 := by
  unfold dueI
  rw [if_neg (by decide), if_neg (by decide), if_neg (by decide), if_neg (by decide)]
end
end RF
namespace RF
open PySem PySem.Spec PyProof.Rows L2 Evl
/-! ### law k13's own -/
/-- a refusal of a number that is no prime, some tracked -/
def spP13 (K : PySem.W.Frag) (er : Nat → Addr) : Sp := fun vs H _ E => ∃ (turn p : Int) (a : Addr) (ns : List Int), vs = [.int turn, .int p, .ref a] ∧ H a = some (.lst (ns.map V.int)) ∧ ns.length ≤ 100 ∧ isPrime p = false ∧ ∀ H', Ex H H' → E (.ref (er 0)) none H'
/-- none, of [1] -/
def spD13 (K : PySem.W.Frag) : Sp := fun vs H Q _ => ∃ (turn p : Int) (a : Addr), vs = [.int turn, .int p, .ref a] ∧ H a = some (.lst (([1] : List Int).map V.int)) ∧ p ∈ primes ∧ turn ≠ 1 ∧ turn ≠ 7 ∧ ∀ v H', Ex H H' → Q v H'
def spT13 (K : PySem.W.Frag) : Sp := fun vs H Q _ => ∃ (turn p : Int) (a : Addr) (ns : List Int) (r : PySem.Str), vs = [.int turn, .int p, .ref a] ∧ H a = some (.lst (ns.map V.int)) ∧ ns.length ≤ 100 ∧ ((isPrime p = false ∧ r = "prime") ∨ (p ∈ primes ∧ ns = [1] ∧ turn ≠ 1 ∧ turn ≠ 7 ∧ r = "done")) ∧ ∀ H', Ex H H' → Q (.str r) H'
section
variable {K : PySem.W.Frag} {σ : L2.St} {H : Hp} {ta : TA} {vs : List V} {sp : Sp} {W : WX} {D : Ends} {tz : TS} {Q : VK} {v : V}
theorem callS_at (h : EvA ta σ H vs) (k : ∀ H1, Ex H H1 → sp vs H1 Q (WE W σ)) : tCallS sp (WE W) ta σ H Q := h H (Ex.refl H) _ k
theorem call_at {E : XK} (h : EvA ta σ H vs) (k : ∀ H1, Ex H H1 → sp vs H1 Q E) : tCall sp [] E ta σ H Q := h H (Ex.refl H) _ fun H1 e => by
  rw [List.append_nil]
  exact k H1 e
end
end RF
namespace RF
theorem not_primes : ∀ x ∈ ([0, 1, 4, 6, 8, 9, 15, 21, 25, 35, 49, 77, 91, 95, 96, 98, 99, 100, 101, 121, 127, 169] : List Int), isPrime x = false := by decide +kernel
theorem not_prime_out {p : Int} (h : p < 2 ∨ 97 < p) : isPrime p = false := by
  cases z : isPrime p with
  | false => rfl
  | true =>
    have := prime_facts z
    omega
theorem not_prime_by {n : Int} {k : Nat} (h0 : 0 ≤ n) (h1 : n < 98) (hk : 2 + (k : Int) < n) (hd : n % (2 + (k : Int)) = 0) : isPrime n = false := by
  have a : ((List.range 98).all fun m => (List.range 98).all fun j => !(decide (2 + ((j : Nat) : Int) < ((m : Nat) : Int)) && decide (((m : Nat) : Int) % (2 + ((j : Nat) : Int)) = 0)) || !isPrime ((m : Nat) : Int)) = true := by decide +kernel
  have b := (List.all_eq_true.mp ((List.all_eq_true.mp a) n.toNat (List.mem_range.mpr (by omega)))) k (List.mem_range.mpr (by omega))
  rw [Int.toNat_of_nonneg h0, decide_eq_true hk, decide_eq_true hd] at b
  simpa using b
end RF
namespace RF
open PySem PySem.Spec PyProof.Rows L2 Evl
theorem ev_call3 {σ : L2.St} {H : Hp} {sp : Sp} {E : XK} {ta tb tc : TE} {x y z : V} {xs : List V} (h1 : Ev ta σ H x) (h2 : Ev tb σ H y) (h3 : EvL tc σ H xs) (k : ∀ p H2, Ex H H2 → H2 p = some (.lst xs) → ∀ Q : VK, (∀ H3, Ex H2 H3 → Q z H3) → sp [x, y, .ref p] H2 Q E) :
    Ev (tCall sp [] E (tCons ta (tCons tb (tCons tc tNil)))) σ H z := fun H1 e Q q => h1 H1 e _ fun H2 e2 => h2 H2 (e.trans e2) _ fun H3 e3 => h3 H3 ((e.trans e2).trans e3) _ fun p H4 _ e4 h4 => by
  show sp [x, y, .ref p] H4 Q E
  exact k p H4 (((e.trans e2).trans e3).trans e4) h4 Q fun H5 e5 => q H5 (((e2.trans e3).trans e4).trans e5)
theorem ev_inI {K : PySem.W.Frag} {σ : L2.St} {H : Hp} {ta tb : TE} {n : Int} {ns : List Int} (h : Ev ta σ H (.int n)) (h2 : EvL tb σ H (ns.map V.int)) : Ev (tOp (rIn K false) ta tb) σ H (.bl (inV (.int n) (ns.map V.int))) := fun H1 e Q q => h H1 e _ fun H2 e2 => h2 H2 (e.trans e2) _ fun p H3 _ e3 h3 => ⟨p, _, rfl, .inl (sq_of h3), rfl, by
  rw [List.all_map, List.all_eq_true]
  intro x _
  rfl, q H3 (e2.trans e3)⟩
end RF
namespace RF
open PySem PySem.Spec PyProof.Rows L2 Evl
/-! ### law k14's own -/
def C14 (turn p : Int) (row rule : List Int) (i : Nat) : Prop :=
  (0 ≤ turn ∧ turn ≤ 5 ∧ areNums p row = false ∧ i = 1) ∨ ((turn = 0 ∨ turn = 1) ∧ areNums p row = true ∧ areNums p rule = false ∧ i = 2) ∨ (6 ≤ turn ∧ turn ≤ 10 ∧ areNums p rule = false ∧ i = 2) ∨
  ((turn = 9 ∨ turn = 10) ∧ areNums p rule = true ∧ areNums p row = false ∧ i = 1) ∨ (turn = 1 ∧ areNums p row = true ∧ areNums p rule = true ∧ row.length < rule.length ∧ i = 1) ∨ ((turn = 9 ∨ turn = 10) ∧ areNums p row = true ∧ areNums p rule = true ∧ row.length ≠ rule.length ∧ i = 1)
theorem C14.lt {turn p : Int} {row rule : List Int} {i : Nat} (h : C14 turn p row rule i) : i < 7 := by
  rcases h with h | h | h | h | h | h
  · have := h.2.2.2; omega
  · have := h.2.2.2; omega
  · have := h.2.2.2; omega
  · have := h.2.2.2; omega
  · have := h.2.2.2.2; omega
  · have := h.2.2.2.2; omega
def F__law_tried14 (xs : List PyData) (v : V) : Prop := ∃ (turn p : Int) (row rule : List Int) (i : Nat), xs = [.int turn, .int p, dl row, dl rule] ∧ row.length ≤ 40000 ∧ rule.length ≤ 40000 ∧ isPrime p = true ∧ C14 turn p row rule i ∧ v = .str (kindN i)
def spB14 (K : PySem.W.Frag) : Sp := fun vs H Q _ => ∃ (p cell : Int) (a : Addr) (ns : List Int), vs = [.int p, .ref a, .int cell] ∧ H a = some (.lst (ns.map V.int)) ∧ ns.length ≤ 30 ∧ 2 ≤ p ∧ p ≤ 97 ∧ 0 ≤ cell ∧
  ∀ ms f H', areNums p ms = false → ms.length ≤ 100 → H f = none → Ex H H' → H' f = some (.lst (ms.map V.int)) → Q (.ref f) H'
theorem bad_len {p : Int} {ms : List Int} (h : 30 < ms.length) : areNums p ms = false := by
  unfold areNums
  rw [decide_eq_false (by omega)]
  rfl
theorem bad_num {p : Int} {ms : List Int} {x : Int} (hx : x ∈ ms) (h : ¬ (0 ≤ x ∧ x < p)) : areNums p ms = false := by
  cases z : areNums p ms with
  | false => rfl
  | true => exact absurd ((areNums_facts z).2 x hx) h
theorem cut_len {ns : List Int} {n : Int} (h : 0 ≤ n) : (cutI ns none (some n)).length ≤ n.toNat := by
  unfold cutI HT.sIx
  rw [List.length_take]
  simp only []
  rw [if_neg (by omega)]
  omega
section
variable {K : PySem.W.Frag} {σ : L2.St} {H : Hp} {ta tb : TE}
theorem el_repI {ns : List Int} {k : Int} (ha : EvX ta σ H (ns.map V.int)) (hb : Ev tb σ H (.int k)) (h0 : 0 ≤ k) (h1 : k ≤ 1000) (hz : ns.length * k.toNat ≤ 100000) : EvL (tOp rRep ta tb) σ H (((List.replicate k.toNat ns).flatten).map V.int) := fun H1 e Q q =>
  ha H1 e _ fun a H2 e2 h2 => hb H2 (e.trans e2) _ fun H3 e3 => ⟨a, k, _, rfl, rfl, e3 _ _ h2, by omega, by omega, by rw [List.length_map]; exact sz_of hz, fun p hp => q p _ (fresh_back (e2.trans e3) hp) ((e2.trans e3).trans (Ex.new hp)) (by rw [upd_same, List.map_flatten, List.map_replicate])⟩
end
end RF

namespace RF
open PySem PySem.Spec PyProof.Rows L2 Evl
/-! ### an exception out of a comprehension's element -/
/-- what is in the air behind a call that raised, where no frame has noted it -/
def AirB (Y : Cx) (E0 : XK) (u : Value) (s' : Shared) : Prop :=
  ∃ (a : Addr) (B : Heap) (sI : Shared) (qs : List (Addr × Obj)) (τ : L2.St) (J : Hp) (cls : Value) (d : Option Addr),
    u = .ref a ∧ L2.Inv Y qs τ J sI ∧ (∀ b o, sI.heap.get? b = some o → b ∉ frs Y.stack → B.get? b = some o) ∧
      sI.heap.UpToSlots s'.heap ∧ HandSPX.FlyingZ B Y.stack a (Zc cls d) s'.heap ∧ J a = none ∧ s'.os = sI.os ∧ AllBare s'.gens ∧ E0 cls d J
theorem airB_call {Y : Cx} {qs : List (Addr × Obj)} {τ : L2.St} {J : Hp} {s s' : Shared} {E0 : XK} {u : Value} (I : L2.Inv Y qs τ J s)
    (c : L2.CX Y.prog Y.w Y.stack J s E0 u s') : AirB Y E0 u s' := by
  obtain ⟨a, B, sI, rs, τ', J', cls, d, e, I', nb, up, sky, na, os, ag, w⟩ := XE.of_call (W := fun cls d _ H => E0 cls d H) I (fun _ _ _ h => h) c
  obtain ⟨a1, _, _, _, _, e1, ⟨_, _, _, oe, vs, T, oT, ts, g1, _, g2, g3, _, _, g4, g5, g6⟩, _⟩ := c
  subst e
  cases e1
  refine ⟨a, B, sI, rs, τ', J', cls, d, rfl, I', nb, up, ?_, na, os, ag, w⟩
  rcases sky with ⟨_, _, _, oe2, vs2, k1, _, k2, k3⟩ | fl | ⟨_, _, _, oe2, vs2, T2, oT2, ts2, k1, _, k2, k3, _, _, k4, k5, k6⟩
  · rw [g1] at k1
    cases k1
    rw [g2] at k2
    cases k2
    rw [g3] at k3
    cases k3
  · exact fl
  · rw [g1] at k1
    cases k1
    rw [g2] at k2
    cases k2
    rw [g3] at k3
    cases k3
    rw [g4] at k4
    cases k4
    rw [g5] at k5
    cases k5
    rw [g6] at k6
    have k6 := Option.some.inj k6
    simp [rawInt] at k6
theorem passB {Y : Cx} {E0 : XK} (σ : L2.St) : PassesAt (L2.CX Y.prog Y.w) (Y.wish (AirB Y E0)) σ E0 := fun _ _ _ _ _ I c => airB_call I.unwish c
/-- one table changed: what is traced stays traced -/
theorem traced_but {h h' B B' : Heap} {a C : Addr} {Z : Obj → Prop} {fl : Value} {m : PySem.Str → Option Value} (t : HandSPX.TracedZ h B a Z fl) (hn : h.Ns C m)
    (sb : Heap.SameBut C h h') (k : ∀ b, B.get? b = none → B'.get? b = none) : HandSPX.TracedZ h' B' a Z fl := by
  obtain ⟨oe, vs, T, oT, ts, x1, x2, x3, x4, x5, x6, x7, x8, x9⟩ := t
  obtain ⟨oC, es, ep, y1, y2, _⟩ := hn
  have ne : ∀ {b : Addr} {o : Obj} {ws : Array Value}, h.get? b = some o → o.data = .fields ws → b ≠ C := fun e q z => by
    subst z
    rw [y1] at e
    cases e
    rw [y2] at q
    cases q
  exact ⟨oe, vs, T, oT, ts, (sb.2 _ (ne x1 x3)).trans x1, x2, x3, x4, k _ x5, x6, (sb.2 _ (ne x7 x8)).trans x7, x8, x9⟩
section
variable {X : Cx} {pins : List (Addr × Obj)} {σ : L2.St} {H3 : Hp} {s3 s' : Shared} {scope : Scope} {cl : List (PySem.Str × Addr)} {fp : List Addr} {E0 : XK} {u : Value}
theorem air_out (hs : X.stack = X.env :: X.outer) (hf : X.env.frame = some X.env.locals) (tk : L2.Takes X fun cls d _ H => E0 cls d H) (I3 : L2.Inv X pins σ H3 s3) (f3 : ∀ b ∈ fp, FpOk X pins H3 b)
    (x : AirB (X.blk s3 H3 scope (compEnvC scope cl s3.heap.objs.size X.env) fp) E0 u s') :
    notedBy (model X.prog X.w) X.A (compEnvC scope cl s3.heap.objs.size X.env) (CompFails (model X.prog X.w) X.A X.xe (compEnvC scope cl s3.heap.objs.size X.env)) u s' := by
  obtain ⟨a, B, sI, qs, τ, J, cls, d, rfl, I, nb, up, fl, na, os, ag, w⟩ := x
  have hfr : X.A.frames = some (X.env :: X.outer) := by rw [I3.ok.frames, hs]
  have fl' : HandSPX.FlyingZ B (X.env :: X.outer) a (Zc cls d) s'.heap := hs ▸ fl
  show wpAny _ X.A (noteFrame (.ref a) (compEnvC scope cl s3.heap.objs.size X.env)) _ _ s'
  rw [noteFrame_env (cenv := compEnvC scope cl s3.heap.objs.size X.env) (env := X.env) (.ref a) rfl]
  refine HandSPX.looks_onZ Zc.steady hfr hf fl' fun h1 hd1 up1 => ?_
  generalize hC : s3.heap.objs.size = C at I
  obtain ⟨m, hm, _⟩ := id I.loc
  have hm : sI.heap.Ns C m := hm
  have n1 : h1.Ns C m := (hm.upToSlots up).upToSlots up1
  refine ⟨m, n1, fun h2 m2 n2 sb => ?_⟩
  have n2 : h2.Ns C m2 := n2
  have sb : Heap.SameBut C h1 h2 := sb
  -- the ground and the state, the block's table taken away
  have out : ∀ {G : Heap} {b : Addr} {o : Obj}, (PySem.W.hideAll G [C]).get? b = some o → G.get? b = some o ∧ b ≠ C := fun {G b o} e => ⟨PySem.W.of_hideAll [C] e, fun z => by
    subst z
    rw [PySem.W.hideAll_none [b] (List.mem_singleton.mpr rfl)] at e
    cases e⟩
  have into : ∀ {G : Heap} {b : Addr} {o : Obj}, G.get? b = some o → b ≠ C → (PySem.W.hideAll G [C]).get? b = some o := fun {G b o} e z => PySem.W.hideAll_get [C] e (by simp [z])
  have gone : ∀ b, B.get? b = none → (PySem.W.hideAll B [C]).get? b = none := fun b e => by
    cases q : (PySem.W.hideAll B [C]).get? b with
    | none => rfl
    | some o =>
      have z := (out q).1
      rw [e] at z
      cases z
  have held : HandSPX.HeldZ (PySem.W.hideAll B [C]) (X.env :: X.outer) a (Zc cls d) X.env.locals h2 := by
    obtain ⟨q1, q2, q3, q4⟩ := hd1
    refine ⟨fun b o e => (sb.2 b (out e).2).trans (q1 b o (out e).1), gone _ q2, Heap.FunFrames.sameBut sb n2 (funFrames_none q3 fun L hL => gone L (q3.mem hL).1), traced_but q4 n1 sb gone⟩
  have I1 : L2.Inv X pins σ J sI := I3.call' (ch := fp) I.os I.base I.hok I.bare fun b hb =>
    let z := f3 b hb
    ⟨z.2.2.2.1, z.2.1, z.2.2.2.2.1, z.2.2.2.2.2⟩
  have nC : J C = none := I.free
  obtain ⟨f0, f1, _, f4, f5, f6⟩ := I3.fpOk (Nat.le_of_eq hC) nC
  have I2 := I1.turned (it := C) (h' := PySem.W.hideAll sI.heap [C]) (t' := sI.toks) (fun b o hb e => into e hb) f0 f1 f4 f5 f6
  obtain ⟨_, _, _, oe, vs, T, oT, ts, he, hz, hdt, hv1, _⟩ := id held
  unfold PySem.passOn
  refine wpAny_bind (wpAny_field he hdt hv1 ?_)
  rw [if_neg (show ¬ ((Value.ref T == Value.none) = true) by simp)]
  have fin : wpAny (model X.prog X.w) X.A (setFlight (.ref a) (compEnvC scope cl C X.env).frame) (fun _ s4 => wpAny (model X.prog X.w) X.A (throw (.ref a) : Sem Value) (fun _ _ => False) X.xe s4) X.xe { s' with heap := h2 } := by
    rw [show (compEnvC scope cl C X.env).frame = some X.env.locals from hf]
    refine HandSPX.setFlight_onZ held fun h4 hd4 up4 => wpAny_throw (tk _ _ ?_)
    refine ⟨a, PySem.W.hideAll B [C], { sI with heap := PySem.W.hideAll sI.heap [C] }, pins, σ, J, cls, d, rfl, I2, fun b o e hb => into (nb b o (out e).1 hb) (out e).2, fun b o e hn => ?_, .inr (.inr (by rw [hs]; exact hd4)), na, os, ag, w⟩
    obtain ⟨e0, hb⟩ := out e
    obtain ⟨l1, r1⟩ := up b o e0 hn
    obtain ⟨l2, r2⟩ := up1 b _ r1 hn
    have r3 := (sb.2 b hb).trans r2
    obtain ⟨l4, r4⟩ := up4 b _ r3 hn
    exact ⟨l4, r4⟩
  first
    | exact wpAny_bind (wpAny_pure (wpAny_bind fin))
    | exact wpAny_bind fin
end
/-- [e for x in iter] whose element raises before the walk is out: W by the turn, the walk's n-th turn the last -/
def tLcX (wi : TI) (i : Nat) (te : TE) (vs : List Nat) : L2.St → Hp → Prop := fun σ H => wi σ H fun Jt H1 => (∀ x, wipe ((wipe σ vs).set i (some x)) vs = wipe σ vs) ∧ ∀ D, H1 D = none → ∃ (n : Nat) (W : Nat → Hp → Prop), W 0 (upd H1 D (.lst [])) ∧
  ∀ k H2, W k H2 → k ≤ n ∧ Jt.go k H2 ∧ ∀ x H3, Jt.yld k H2 x H3 → te ((wipe σ vs).set i (some x)) H3 fun y H4 => k < n ∧ ∃ acc, H4 D = some (.lst acc) ∧ acc.length < sizeLine ∧ W (k + 1) (upd H4 D (.lst (acc ++ [y])))
theorem ps_lcX {X : Cx} {E0 : XK} {y : PySem.Str} {py pos spos : Pos} {elt tg iter : Expr} {scope : Scope} {own : List (PySem.Str × Nat)} {wi : TI} {i : Nat} {te : TE}
    (hc : X.calm = true) (hN : X.N.Nodup) (hs : X.stack = X.env :: X.outer) (hf : X.env.frame = some X.env.locals) (tk : L2.Takes X fun cls d _ H => E0 cls d H)
    (hsw : swapsWith (.ListComp elt [⟨tg, iter, [], 0⟩] scope pos) (some (.Name y py)) spos.line X.env = pure true) (hi : PI X tg iter wi) (ok : BlkOk X.N X.env.scope scope own)
    (hg : ∀ (s : Shared) (H : Hp) (C : Addr) (cl : List (PySem.Str × Addr)) (fp : List Addr), PG (X.blk s H scope (compEnvC scope cl C X.env) fp) tg (gName i))
    (he : ∀ (s : Shared) (H : Hp) (C : Addr) (cl : List (PySem.Str × Addr)) (fp : List Addr), PE ((X.blk s H scope (compEnvC scope cl C X.env) fp).wish (AirB (X.blk s H scope (compEnvC scope cl C X.env) fp) E0)) elt te)
    (hfs : ∀ x, foldedSetIterable iter X.env x = pure x := by intro _; rfl) :
    PS X (.Assign [.Name y py] (.ListComp elt [⟨tg, iter, [], 0⟩] scope pos) spos) (fun _ σ H => tLcX wi i te (own.map (·.2)) σ H) := by
  refine ⟨fun pins s σ H Dn I h => ?_⟩
  have cells : ∀ z ∈ scope.names, z.2 = .free → ∃ c, X.env.cells.lookup z.1 = some c := fun z hz e => I.ok.has _ ((ok.free z hz e).elim Or.inl Or.inr)
  rw [exec_Assign_Name_used _ _ _ _ hsw]
  refine wpAny_bind (wpAny_standAt (wpAny_bind ?_))
  refine wpAny_bind (wpAny_mono (comprehension_at (use := some (assign (.Name y py) X.env)) (Q := fun _ s' => SP X pins Dn .next s') (g := ⟨tg, iter, [], 0⟩) (gs := []) rfl hfs (closure_ok cells) ok.kind
    (fun z hz e => by rw [ok.uniq z hz, e]) (thn (hi.run pins s σ H _ I h) fun xv s1 hx => thn hx fun itv s2 h2 => ?_)) (fun _ s' hq => wpAny_pure (wpAny_pure hq)) fun _ _ e => e)
  obtain ⟨it, fp, tn, Jt, H2, rfl, I2, T, st2, f2, hw, q⟩ := h2
  refine wpAny_newObj_type (newEnv_comp ?_) (by show 0 ≤ sizeLine; decide)
  have hDn : H2 s2.heap.objs.size = none := I2.hok.fresh (Nat.le_refl _)
  obtain ⟨n, W, w0, turn⟩ := q s2.heap.objs.size hDn
  have bel : ∀ b ∈ fp, b < s2.heap.objs.size := fun b hb => by
    obtain ⟨o, e, _⟩ := T.obj _ _ st2 b hb
    exact Heap.lt_size e
  generalize hD : s2.heap.objs.size = D at hDn w0 turn bel
  generalize hs3 : ({ s2 with heap := s2.heap.push { cls := .type "list", data := .seq ([] : List Value).toArray } } : Shared) = s3
  have old3 : ∀ b o, s2.heap.get? b = some o → s3.heap.get? b = some o := fun b o e => by
    rw [← hs3]
    exact Heap.get?_push_of_some _ e
  have I3 : L2.Inv X pins σ (upd H2 D (.lst [])) s3 := by
    rw [← hs3]
    refine I2.laid (t' := s2.toks) (fun b o e => Heap.get?_push_of_some _ e) (Nat.le_of_eq hD) ⟨Nat.zero_le _, [], 0, .nil, ?_⟩
    rw [← hD]
    exact Heap.get?_push_size _ rfl
  have f3 : ∀ b ∈ fp, FpOk X pins (upd H2 D (.lst [])) b ∧ b < s3.heap.objs.size := fun b hb => by
    obtain ⟨o, e, _⟩ := T.obj _ _ st2 b hb
    refine ⟨⟨?_, (f2 b hb).2⟩, Heap.lt_size (old3 _ _ e)⟩
    rw [upd_ne (Nat.ne_of_lt (bel b hb))]
    exact (f2 b hb).1
  have st3 : tn 0 s3.heap := T.keep _ _ _ st2 fun b _ o e => old3 b o e
  have I4 := block_start I3 ok hN f3
  have pg := hg s3 (upd H2 D (.lst [])) s3.heap.objs.size (cellsFrom (s3.heap.objs.size + 1) scope.names (cloFrom X.env.cells scope.names [])) fp
  have pe := he s3 (upd H2 D (.lst [])) s3.heap.objs.size (cellsFrom (s3.heap.objs.size + 1) scope.names (cloFrom X.env.cells scope.names [])) fp
  have ao : ∀ u s', _ → _ := fun u s' x => air_out (u := u) (s' := s') (scope := scope) (cl := cellsFrom (s3.heap.objs.size + 1) scope.names (cloFrom X.env.cells scope.names [])) (E0 := E0) hs hf tk I3 (fun b hb => (f3 b hb).1) x
  have none3 : ∀ b ∈ fp, (upd H2 D (.lst [])) b = none := fun b hb => (f3 b hb).1.1
  show codeAny _ _ (.compStart (.ListComp elt [⟨tg, iter, [], 0⟩] scope pos) 0 (.ref it) (.ref D) (compEnvC scope (cellsFrom (s3.heap.objs.size + 1) scope.names (cloFrom X.env.cells scope.names [])) s3.heap.objs.size X.env))
    (compEnds (model X.prog X.w) X.A X.xe (some (assign (.Name y py) X.env)) (fun _ s' => SP X pins Dn .next s') (.ref D) (compEnvC scope (cellsFrom (s3.heap.objs.size + 1) scope.names (cloFrom X.env.cells scope.names [])) s3.heap.objs.size X.env))
    { s3 with heap := pushCells (s3.heap.push { cls := .type "dict", data := .dict #[] }) scope.names }
  generalize hce : compEnvC scope (cellsFrom (s3.heap.objs.size + 1) scope.names (cloFrom X.env.cells scope.names [])) s3.heap.objs.size X.env = ce at I4 pg pe ao ⊢
  generalize hH3 : upd H2 D (.lst []) = H3 at I3 I4 pg pe ao w0 none3 f3
  generalize hs4 : ({ s3 with heap := pushCells (s3.heap.push { cls := .type "dict", data := .dict #[] }) scope.names } : Shared) = s4 at I4 ⊢
  have st4 : tn 0 s4.heap := T.keep _ _ _ st3 fun b _ o e => by
    rw [← hs4]
    exact pushCells_keeps _ _ _ _ (Heap.get?_push_of_some _ e)
  have stat : ∀ {τ : L2.St} {J : Hp} {t : Shared}, L2.Inv (X.blk s3 H3 scope ce fp) [] τ J t → (∀ b ∈ fp, J b = none) → ∀ b ∈ fp, FpOk (X.blk s3 H3 scope ce fp) [] J b := fun {τ J t} K hn b hb =>
    ⟨hn b hb, (K.ok.exf b hb).1, K.ok.exfs b hb, Or.inl hb, (K.ok.exf b hb).2, fun p hp => nomatch (show p ∈ ([] : List (Addr × Obj)) from hp)⟩
  have loop : codeAny (model X.prog X.w) X.A (.compLoop (.ListComp elt [⟨tg, iter, [], 0⟩] scope pos) 0 (.ref it) (.ref D) ce)
      (compEnds (model X.prog X.w) X.A X.xe (some (assign (.Name y py) X.env)) (fun _ s' => SP X pins Dn .next s') (.ref D) ce) s4 := by
    refine compLoop_any (fun left t => ∃ k J, left = n - k ∧ L2.Inv (X.blk s3 H3 scope ce fp) [] (wipe σ (own.map (·.2))) J t ∧ tn k t.heap ∧ (∀ b ∈ fp, J b = none) ∧ W k J) ?_ (n - 0) ⟨0, H3, rfl, I4, st4, none3, w0⟩
    rintro left s5 ⟨k, H5, rfl, I5, st5, n5, w5⟩
    obtain ⟨hk, go, step⟩ := turn k H5 w5
    refine thnF (T.item (X.blk s3 H3 scope ce fp) rfl rfl rfl hc k [] s5 _ H5 (fun _ _ => False) I5 (stat I5 n5) st5 go) fun r s6 hr => ?_
    obtain ⟨v, rfl, h6⟩ := hr
    refine thnF h6 fun _ s7 h7 => ?_
    obtain ⟨x, H7, I7, r7, y7, st7, n7⟩ := h7
    refine thnF (pg.run _ s7 _ H7 x v (fun τ J => τ = (wipe σ (own.map (·.2))).set i (some x) ∧ J = H7) (I7.pinned (stat I7 n7) (T.obj _ _ st7)) r7 ⟨rfl, rfl⟩) fun _ s8 h8 => ?_
    obtain ⟨τ, J, I8, rfl, rfl⟩ := h8
    refine wpAny_pure ?_
    rw [if_pos rfl]
    refine wpAny_mono (pe.run _ s8 _ _ _ (I8.wish _) (step x _ y7)) (fun z s10 h10 => ?_) fun e s10 x10 => ao e s10 x10
    obtain ⟨yv, H10, I10, r10, hlt, acc, hD10, hz10, nx⟩ := h10
    refine app_ok (X := X.blk s3 H3 scope ce fp) I10.unwish hD10 hz10 r10 fun s11 I11 => ⟨n - (k + 1), by omega, k + 1, _, rfl, (I11.unpinned (pins := [])).weak ?_ (fun j u e => ?_), T.keep _ _ _ st7 fun b hb o e => ?_, fun b hb => ?_, nx⟩
    · rw [List.length_set]
    · rw [← hw x] at e
      exact (wipe_some e).1
    · exact (I11.pin (b, o) (List.mem_append_right _ (List.mem_append_right _ (mem_pinsAt hb e)))).1
    · obtain ⟨o, e, _⟩ := T.obj _ _ st7 b hb
      exact (I11.pin (b, o) (List.mem_append_right _ (List.mem_append_right _ (mem_pinsAt hb e)))).2.1
  exact codeAny_compStart_list loop (T.self X.A 0 _ _ _ st4 loop)
end RF
namespace RF
open PySem PySem.Spec PyProof.Rows L2 Evl
/-! ### try: .. except (C, D): a suite that raises -/
theorem flyZ_keep {B h h' : Heap} {l : List Env} {a : Addr} {Z : Obj → Prop} (f : HandSPX.FlyingZ B l a Z h) (k : ∀ b o, h.get? b = some o → h'.get? b = some o) : HandSPX.FlyingZ B l a Z h' := by
  obtain ⟨x1, x2, x3, oe, vs, T, oT, ts, y1, y2, y3, y4, y5, y6, y7, y8, y9⟩ := f
  exact ⟨fun b o e => k b o (x1 b o e), x2, x3.of_keeps fun b o e _ => ⟨o, k b o e, rfl⟩, oe, vs, T, oT, ts, k _ _ y1, y2, y3, y4, y5, y6, k _ _ y7, y8, y9⟩
/-- the wish: one of the two classes names it -/
def wPair (K : PySem.W.Frag) (c1 c2 : Value) (ts : Addr → Value → Option Addr → TS) (D : Ends) : WX := fun cls d σ H => PySem.W.exmAny K cls [c1, c2] = some true ∧ ∀ a, H a = none → ts a cls d D σ H
section
variable {X : Cx} {x1 x2 : PySem.Str} {c1 c2 : Value} {body suite : List Stmt} {b₀ : Stmt} {p1 p2 tpos pos pos' : Pos} {kk : Nat} {tb : WX → TS} {ts : Addr → Value → Option Addr → TS} {Wout : WX}
theorem ps_tryP (hs : X.stack = X.env :: X.outer) (hf : X.env.frame = some X.env.locals) (n1 : Names X x1 c1) (n2 : Names X x2 c2)
    (hpa : ∀ hd : Option Value, PassesOwnAt (model X.prog X.w) (X.A.mark hd) X.A X.env X.xe) (tk : L2.Takes X Wout)
    (hb : ∀ (W : WX) (pn : List (Addr × Obj)) (xe : Value → Shared → Prop), L2N.Takes (X.tr pn xe) W → PSs (X.tr pn xe) body (tb W))
    (hsu : ∀ (a : Addr) (oe : Obj) (cls : Value) (d : Option Addr) (pn : List (Addr × Obj)), L2.Takes (L2H.suiteX X a ((a, oe) :: pn)) Wout → L2H.HotC (L2H.suiteX X a ((a, oe) :: pn)) →
      PSs (L2H.suiteX X a ((a, oe) :: pn)) (b₀ :: suite) (ts a cls d)) :
    PS X (.Try body [.ExceptHandler (some (.Tuple [.Name x1 p1, .Name x2 p2] kk tpos)) none (b₀ :: suite) pos'] [] [] pos) (fun D σ H => tb (wPair X.K c1 c2 ts D) D σ H) := by
  refine ⟨fun pins s σ H D I h => wpAny_Try_except ?_⟩
  have ok := I.ok
  have hfr : X.A.frames = some (X.env :: X.outer) := by rw [ok.frames, hs]
  generalize hcl : [ExceptHandler.ExceptHandler (some (.Tuple [.Name x1 p1, .Name x2 p2] kk tpos)) none (b₀ :: suite) pos'] = clauses
  have caught : L2N.Takes (X.tr (X.pn ++ pins) fun e t1 => wpAny (model X.prog X.w) X.A (noteFrame e X.env) (fun _ t2 => wpAny (model X.prog X.w) X.A (setFlight e none)
      (fun _ t3 => wpAny (model X.prog X.w) X.A (handleBy e X.env clauses) (SP X pins D) X.xe t3) X.xe t2) X.xe t1) (wPair X.K c1 c2 ts D) := by
    rintro u s' ⟨a, B, sI, qs, τ, J, cls, d, rfl, I', nb, up, sky, na, os, ag, hm, hts⟩
    have I1 : L2.Inv X pins τ J sI := I'.ofTry ok
    have sky1 : Sky B (X.env :: X.outer) a (L2N.Zn cls d) X.env.locals s'.heap := hs ▸ sky
    show wpAny (model X.prog X.w) X.A (noteFrame (.ref a) X.env) _ _ _
    refine L2N.Sky.land L2N.Zn.steady hfr hf sky1 fun h3 fl3 up3 => ?_
    have apart : ∀ {h : Heap}, HandSPX.FlyingZ B (X.env :: X.outer) a (L2N.Zn cls d) h → a ≠ X.env.locals ∧ a ∉ X.fs := fun {h} fl => by
      obtain ⟨_, _, ff, oe, vs, _, _, _, e, _, dd, _⟩ := fl
      have nm : a ∉ frs (X.env :: X.outer) := fun hm => by
        obtain ⟨_, o', e', hnf⟩ := ff.mem hm
        rw [e] at e'
        cases e'
        exact hnf _ dd
      exact ⟨fun z => nm (List.mem_filterMap.mpr ⟨X.env, List.mem_cons_self, by rw [hf, z]⟩), fun hm => by
        obtain ⟨en, q1, q2⟩ := List.mem_filterMap.mp hm
        exact nm (List.mem_filterMap.mpr ⟨en, List.mem_cons_of_mem _ q1, q2⟩)⟩
    have J3 : L2.Inv X pins τ J { s' with heap := h3 } := I1.landed nb fl3.1 (up.trans up3) os ag
    obtain ⟨oe3, vs3, he3, hz3, hd3⟩ := fl3.there
    obtain ⟨aL, aF⟩ := apart fl3
    have S3 := J3.suite he3 hd3 na aL aF
    have ld : ∀ {x : PySem.Str} {c : Value} {p : Pos} {Q E : Value → Shared → Prop}, Names X x c → Q c { s' with heap := h3 } → wpAny (model X.prog X.w) (X.A.mark (some (.ref a))) (eval (.Name x p) X.env) Q E { s' with heap := h3 } := fun {x c p Q E} hn q => by
      obtain ⟨hg, hdbg, hm | ⟨hm, hv, hnn⟩⟩ := hn
      · exact ld_glob (X := X.suite a ((a, oe3) :: (X.pn ++ pins))) S3 hg hm q hdbg
      · exact ld_blt (X := X.suite a ((a, oe3) :: (X.pn ++ pins))) S3 hg hm hv q hnn hdbg
    subst hcl
    refine wpAny_handleBy_cons (codeAny_handlers_test ?_) (by intro q; cases q)
    refine wpAny_Tuple (wpAny_items_cons (ld n1 (wpAny_items_cons (ld n2 (wpAny_items_nil ⟨by size_fits, ?_⟩)))))
    generalize hT : h3.push { cls := .type "tuple", data := .seq [c1, c2].toArray } = hT3
    have kp : ∀ b o, h3.get? b = some o → hT3.get? b = some o := fun b o e => by
      rw [← hT]
      exact Heap.get?_push_of_some _ e
    have tup : hT3.get? h3.objs.size = some { cls := .type "tuple", data := .seq [c1, c2].toArray } := by
      rw [← hT]
      exact Heap.get?_push_size _ rfl
    have flT := flyZ_keep fl3 kp
    have upT : h3.UpToSlots hT3 := Heap.UpToSlots.of_keeps kp
    have LT : PySem.W.Looks (model X.prog X.w) hT3 (typeOf (.ref a)) cls := fun A Q E s k q => wpAny_typeOf_ref (k _ _ (kp _ _ he3)) (by rw [hz3.1]; exact q)
    refine (PySem.W.exm_tup2 (J3.kIn.keeps kp) LT tup hm).here ?_
    show codeAny _ _ _ _ _
    refine codeAny_handlers_suite ?_
    refine HandSPX.lands_againZ flT fun h4 fl4 up4 => ?_
    have J4 : L2.Inv X pins τ J { s' with heap := h4 } := I1.landed nb fl4.1 (((up.trans up3).trans upT).trans up4) os ag
    obtain ⟨oe4, vs4, he4, hz4, hd4⟩ := fl4.there
    have S4 := J4.suite he4 hd4 na aL aF
    have tkS : L2.Takes (L2H.suiteX X a ((a, oe4) :: (X.pn ++ pins))) Wout := fun u2 s2 ⟨a2, B2, sI2, pn2, σ2, H2, cls2, d2, e2, I2, r⟩ =>
      tk u2 s2 ⟨a2, B2, sI2, pins, σ2, H2, cls2, d2, e2, L2H.unsuiteX I2 ok, r⟩
    refine wpAny_mono ((hsu a oe4 cls d (X.pn ++ pins) tkS ⟨(a, oe4), ⟨rfl, vs4, hd4, hz4.2.2 vs4 hd4⟩, List.mem_cons_self⟩).run [] _ _ J _ (L2H.suiteX_of S4) (hts a na)) (fun f s6 q6 => ?_) (fun e6 s6 z => hpa (some (.ref a)) e6 s6 z)
    cases f with
    | ret v =>
      obtain ⟨v6, σ6, H6, S6, r⟩ := q6
      exact ⟨v6, σ6, H6, L2H.unsuiteX S6 ok, r⟩
    | next =>
      obtain ⟨σ6, H6, S6, r⟩ := q6
      exact ⟨σ6, H6, L2H.unsuiteX S6 ok, r⟩
    | brk =>
      obtain ⟨σ6, H6, S6, r⟩ := q6
      exact ⟨σ6, H6, L2H.unsuiteX S6 ok, r⟩
    | cont =>
      obtain ⟨σ6, H6, S6, r⟩ := q6
      exact ⟨σ6, H6, L2H.unsuiteX S6 ok, r⟩
  refine wpAny_mono ((hb (wPair X.K c1 c2 ts D) (X.pn ++ pins) _ caught).run [] s σ H D (I.toTry _) h) (fun f s1 q => ?_) (fun e s1 he => he)
  cases f with
  | next =>
    obtain ⟨σ', H', J', q⟩ := q
    exact wpAny_execs_nil ⟨σ', H', J'.ofTry ok, q⟩
  | ret v =>
    obtain ⟨v1, σ', H', J', r⟩ := q
    exact ⟨v1, σ', H', J'.ofTry ok, r⟩
  | brk =>
    obtain ⟨σ', H', J', r⟩ := q
    exact ⟨σ', H', J'.ofTry ok, r⟩
  | cont =>
    obtain ⟨σ', H', J', r⟩ := q
    exact ⟨σ', H', J'.ofTry ok, r⟩
end
end RF
namespace RF
open PySem PySem.Spec PyProof.Rows L2 Evl
/-! ### defs that may raise, called in a block; where the error's context is None; raised in a suite -/
structure DefXN (P : Program) (w : World) (K : PySem.W.Frag) (mg : PySem.Str → Option Value) (base : Heap) (k : Nat) (x : PySem.Str) (ps : List PySem.Str) (sp : Sp) : Prop where
  ex : ∃ f fd, mg x = some (.ref f) ∧ PySem.W.keepIn K (.ref f) = true ∧ L2.Binds K fd ps [] ∧ FnOk P w K mg base (L2N.CX P w) k f fd ps sp
theorem DefAt.okXN {P : Program} {w : World} {K : PySem.W.Frag} {mg : PySem.Str → Option Value} {base : Heap} {x : PySem.Str} {st : Stmt} {N ps : List PySem.Str} {k : Nat} {sp : Sp} (A : DefAt K mg x st ps) (S : FnScope N ps (defScope st)) (len : ∀ vs H Q E, sp vs H Q E → vs.length = ps.length)
    (hbody : ∀ (f : Addr) (cdv : Value) (A : Around) (outer : List Env) (s : Shared) (H : Hp) (vs : List V) (Q : VK) (E : XK), Room k (A.deeper (envOfC x (defScope st) s.heap.objs.size f cdv)) → sp vs H Q E →
      ∃ t, PSs (cxOf (L2N.CX P w) P w K mg base N x (defScope st) f cdv A outer s H E) (defBody st) t ∧ t { nx := fun _ H' => Q .non H', rt := Q } (L2.start N vs) H) : DefXN P w K mg base (k + 1) x ps sp := by
  obtain ⟨f, fd, hm, F, b⟩ := A.ex
  obtain ⟨oc, od, kV, doc, pm, an, cdv, ct, osl, e, lk, hcd⟩ := id F.ex
  subst e
  exact ⟨f, _, hm, F.kp, b, fn_of lk hcd S len fun A outer s H vs Q E hr h => hbody f cdv A outer s H vs Q E hr h⟩
section
variable {X : Cx} {k : Nat} {x : PySem.Str} {ps : List PySem.Str} {sp : Sp} {W : WX} {e : Expr} {es : List Expr} {t : TA} {p pos : Pos}
theorem pe_cdn (D : DefXN X.prog X.w X.K X.mg X.base k x ps sp) (hr : Room k X.A) (hg : Gl X x) (tk : L2N.Takes X W) (ha : PA X (e :: es) t)
    (hdb : (x == ("__debug__" : PySem.Str)) = false := by decide) (he : starEach (e :: es) X.env = (false, eval e X.env) :: starEach es X.env := by rfl) (hpl : (backTo pos (starEach es X.env)).any (·.1) = false := by rfl) :
    PE X (.Call (.Name x p) (e :: es) [] pos) (tCallS sp (WE W) t) := by
  obtain ⟨f, fd, hm, kp, b, F⟩ := D.ex
  exact pe_callS F hr hg hm kp b (fun σ => L2N.passAt tk σ) ha hdb he hpl
theorem pe_cdB {Y : Cx} {E0 : XK} (D : DefX Y.prog Y.w Y.K Y.mg Y.base k x ps sp) (hr : Room k Y.A) (hg : Gl (Y.wish (AirB Y E0)) x) (ha : PA (Y.wish (AirB Y E0)) (e :: es) t)
    (hdb : (x == ("__debug__" : PySem.Str)) = false := by decide) (he : starEach (e :: es) Y.env = (false, eval e Y.env) :: starEach es Y.env := by rfl) (hpl : (backTo pos (starEach es Y.env)).any (·.1) = false := by rfl) :
    PE (Y.wish (AirB Y E0)) (.Call (.Name x p) (e :: es) [] pos) (tCallS sp (fun _ => E0) t) := by
  obtain ⟨f, fd, hm, kp, b, F⟩ := D.ex
  exact pe_callS (X := Y.wish (AirB Y E0)) F hr hg hm kp b (fun σ => passB σ) ha hdb he hpl
end
theorem ps_raiseN {X : Cx} {er : Nat → Addr} {W : WX} {i : Nat} {x m : PySem.Str} {j : Nat} {p p2 pos pos2 : Pos} (hc : X.calm = true) (tk : L2N.Takes X W) (T : ErrTxt X.K X.mg er) (hi : i < 7) (hm : X.mg x = some (.ref (er i))) (hg : Gl X x) (hdb : (x == ("__debug__" : PySem.Str)) = false := by decide) :
    PS X (.Raise (some (.Call (.Name x p) [.Constant (.str m) j p2] [] pos)) none pos2) (fun _ σ H => W (.ref (er i)) none σ H) :=
  L2N.ps_raise hc tk (L2N.pmk_own PySem.F.excBase_ValueError (T.x i hi) hm (T.k i hi) (raises_own (T.b i hi) (T.t i hi)) hg hdb)
theorem ps_raiseHot {X : Cx} {er : Nat → Addr} {W : WX} {i : Nat} {x m : PySem.Str} {j : Nat} {p p2 pos pos2 : Pos} (hc : L2H.HotC X) (tk : L2.Takes X W) (T : ErrTxt X.K X.mg er) (hi : i < 7) (hm : X.mg x = some (.ref (er i))) (hg : Gl X x) (hdb : (x == ("__debug__" : PySem.Str)) = false := by decide) :
    PS X (.Raise (some (.Call (.Name x p) [.Constant (.str m) j p2] [] pos)) none pos2) (fun _ σ H => W (.ref (er i)) none σ H) :=
  L2H.ps_raiseH hc tk (L2N.pmk_own PySem.F.excBase_ValueError (T.x i hi) hm (T.k i hi) (raises_own (T.b i hi) (T.t i hi)) hg hdb)
theorem pair_yes {K : PySem.W.Frag} {mg : PySem.Str → Option Value} {er : Nat → Addr} (T : ErrTxt K mg er) {i : Nat} (hi : i < 2) : PySem.W.exmAny K (.ref (er i)) [.ref (er 0), .ref (er 1)] = some true := by
  have a := T.m i 0 hi (by decide)
  have b := T.m i 1 hi (by decide)
  have h2 : i = 0 ∨ i = 1 := by omega
  unfold PySem.W.exmAny
  rw [a]
  unfold PySem.W.exmAny
  rw [b]
  unfold PySem.W.exmAny
  rcases h2 with rfl | rfl <;> rfl
end RF

namespace RF
open PySem PySem.Spec PyProof.Rows L2 Evl
/-! ### law k17: words, notes of words, what is no note -/
def figs : List Nat := [48, 49, 50, 51, 52, 53, 54, 55, 56, 57]
theorem figs_eq : (("0123456789" : PySem.Str)).cps.toList = figs := by decide +kernel
/-- a word that writes no number -/
def badWB (w : PySem.Str) : Bool := decide (w.length ≤ 1000) && ((decide (w.length = 0) || decide (2 < w.length)) || (decide (w.cps.toList.head? = some 48) && decide (1 < w.length)) || w.cps.toList.any fun c => !decide (c ∈ figs))
def BadW (w : PySem.Str) : Prop := badWB w = true
theorem badW_sign {w : PySem.Str} {c : Nat} (hl : w.length ≤ 1000) (hc : c ∈ TL.tl w) (hn : c ∉ figs) : BadW w := by
  unfold BadW badWB
  rw [decide_eq_true hl, Bool.true_and, Bool.or_eq_true]
  refine Or.inr (List.any_eq_true.mpr ⟨c, hc, ?_⟩)
  rw [decide_eq_false hn]
  rfl
theorem badW_len {w : PySem.Str} (hl : w.length ≤ 1000) (h : 2 < w.length) : BadW w := by
  unfold BadW badWB
  rw [decide_eq_true hl, decide_eq_true h]
  simp
/-- a word and what it writes, or none -/
def Wd (w : PySem.Str) : Option Int → Prop
  | some n => IsW w n
  | none => BadW w
/-- a note made of words -/
def restS (ws : List PySem.Str) : PySem.Str := PySem.Txt.join " " (PySem.Str.empty :: ws)
def noteS (w : PySem.Str) (ws : List PySem.Str) : PySem.Str := PySem.Txt.join ":" [w, restS ws]
theorem restS_tl (ws : List PySem.Str) : TL.tl (restS ws) = (ws.map fun w => 32 :: TL.tl w).flatten := by
  unfold restS
  rw [TL.join_eq, TL.tl_join, tl_blank, List.map_cons, joinL_cons]
  show [] ++ _ = _
  rw [List.nil_append, List.map_map]
  rfl
theorem noteS_tl (w : PySem.Str) (ws : List PySem.Str) : TL.tl (noteS w ws) = TL.tl w ++ 58 :: (ws.map fun w => 32 :: TL.tl w).flatten := by
  unfold noteS
  rw [TL.join_eq, TL.tl_join, tl_colon, ← restS_tl]
  rfl
/-- no colon, no blank -/
def Plain (w : PySem.Str) : Prop := 58 ∉ TL.tl w ∧ 32 ∉ TL.tl w
theorem restS_free {ws : List PySem.Str} (h : ∀ w ∈ ws, Plain w) : 58 ∉ TL.tl (restS ws) := by
  rw [restS_tl]
  intro hm
  rw [List.mem_flatten] at hm
  obtain ⟨l, hl, hm⟩ := hm
  rw [List.mem_map] at hl
  obtain ⟨w, hw, rfl⟩ := hl
  rw [List.mem_cons] at hm
  rcases hm with hm | hm
  · omega
  · exact (h w hw).1 hm
theorem noteS_split {w : PySem.Str} {ws : List PySem.Str} (h0 : 58 ∉ TL.tl w) (h : ∀ w ∈ ws, Plain w) : PySem.Txt.split (noteS w ws) ":" = [w, restS ws] :=
  TL.split_join tl_colon (by decide +kernel) (by simp) fun q hq => by
    rw [List.mem_cons, List.mem_singleton] at hq
    rcases hq with rfl | rfl
    · exact h0
    · exact restS_free h
theorem restS_split {ws : List PySem.Str} (h : ∀ w ∈ ws, Plain w) : PySem.Txt.split (restS ws) " " = PySem.Str.empty :: ws :=
  TL.split_join tl_blank (by decide +kernel) (by simp) fun q hq => by
    rw [List.mem_cons] at hq
    rcases hq with rfl | hq
    · decide
    · exact (h q hq).2
/-- what stands behind the colon begins with a blank, or is nothing -/
def OkRest (r : PySem.Str) : Prop := r = "" ∨ ∃ t, r.cps.toList = 32 :: t
theorem restS_ok (ws : List PySem.Str) : OkRest (restS ws) := by
  cases ws with
  | nil =>
    refine Or.inl (TL.ext_tl ?_)
    rw [restS_tl, tl_none]
    rfl
  | cons w ws => exact Or.inr ⟨_, (restS_tl (w :: ws)).trans (by rw [List.map_cons, List.flatten_cons, List.cons_append])⟩
/-- what read refuses, by the way it finds out -/
inductive Bad : PySem.Str → Prop
  | parts (z : PySem.Str) (hl : z.length ≤ 1000) (h : (PySem.Txt.split z ":").length ≠ 2) (hm : (PySem.Txt.split z ":").length ≤ 1000) : Bad z
  | blank (z w r : PySem.Str) (hl : z.length ≤ 1000) (h : PySem.Txt.split z ":" = [w, r]) (c : Nat) (t : List Nat) (hr : r.cps.toList = c :: t) (hc : c ≠ 32) (hrl : r.length ≤ 1000) : Bad z
  | prime (z w r : PySem.Str) (hl : z.length ≤ 1000) (h : PySem.Txt.split z ":" = [w, r]) (hr : OkRest r) (hrl : r.length ≤ 1000) (hw : BadW w) : Bad z
  | word (z w r : PySem.Str) (hl : z.length ≤ 1000) (h : PySem.Txt.split z ":" = [w, r]) (hr : OkRest r) (hrl : r.length ≤ 1000) (p : Int) (hw : IsW w p) (e : PySem.Str) (ws : List PySem.Str) (h2 : PySem.Txt.split r " " = e :: ws) (hk : ws.length ≤ 1000)
      (j : Nat) (hj : j < ws.length) (hg : ∀ i : Nat, i < j → ∃ v n, ws[i]? = some v ∧ IsW v n) (v : PySem.Str) (hv : ws[j]? = some v) (hb : BadW v) : Bad z
  | row (z w r : PySem.Str) (hl : z.length ≤ 1000) (h : PySem.Txt.split z ":" = [w, r]) (hr : OkRest r) (hrl : r.length ≤ 1000) (p : Int) (hw : IsW w p) (e : PySem.Str) (ws : List PySem.Str) (h2 : PySem.Txt.split r " " = e :: ws) (hk : ws.length ≤ 1000)
      (ns : List Int) (hn : ns.length = ws.length) (hg : ∀ (i : Nat) (v : PySem.Str), ws[i]? = some v → IsW v (gi ns (i : Int))) (i : Nat) (hi : (isPrime p = false ∧ i = 0) ∨ (isPrime p = true ∧ areNums p ns = false ∧ i = 1)) : Bad z
/-- the words told apart: a bad one, or all writes numbers -/
theorem bad_words {w : PySem.Str} {ws : List PySem.Str} (hl : (noteS w ws).length ≤ 1000) (h0 : 58 ∉ TL.tl w) (h : ∀ v ∈ ws, Plain v) (hp : BadW w ∨ ∃ p, IsW w p) (hs : ∀ v ∈ ws, BadW v ∨ ∃ n, IsW v n)
    (hb : (∀ p ns, IsW w p → ns.length = ws.length → (∀ (i : Nat) (v : PySem.Str), ws[i]? = some v → IsW v (gi ns (i : Int))) → isPrime p = false ∨ areNums p ns = false)) : Bad (noteS w ws) := by
  have lr : (restS ws).length ≤ 1000 := by
    rw [TL.len_tl, noteS_tl, List.length_append, List.length_cons] at hl
    rw [TL.len_tl, restS_tl]
    omega
  have lw : ws.length ≤ 1000 := by
    have z : ∀ vs : List PySem.Str, vs.length ≤ (vs.map fun w => 32 :: TL.tl w).flatten.length := by
      intro vs
      induction vs with
      | nil => exact Nat.le_refl 0
      | cons v vs ih =>
        rw [List.map_cons, List.flatten_cons, List.length_append, List.length_cons, List.length_cons]
        omega
    have z2 := z ws
    rw [TL.len_tl, restS_tl] at lr
    omega
  rcases hp with hp | ⟨p, hp⟩
  · exact .prime _ w (restS ws) hl (noteS_split h0 h) (restS_ok ws) lr hp
  by_cases hall : ∀ v ∈ ws, ∃ n, IsW v n
  · have mk : ∀ vs : List PySem.Str, (∀ v ∈ vs, ∃ n, IsW v n) → ∃ ns : List Int, ns.length = vs.length ∧ ∀ (i : Nat) (v : PySem.Str), vs[i]? = some v → IsW v (gi ns (i : Int)) := by
      intro vs
      induction vs with
      | nil => exact fun _ => ⟨[], rfl, fun i v e => by simp at e⟩
      | cons v vs ih =>
        intro hv
        obtain ⟨n, hn⟩ := hv v (List.mem_cons_self ..)
        obtain ⟨ns, l, g⟩ := ih fun u hu => hv u (List.mem_cons_of_mem _ hu)
        refine ⟨n :: ns, by rw [List.length_cons, List.length_cons, l], fun i u e => ?_⟩
        cases i with
        | zero =>
          have e := Option.some.inj e
          subst e
          exact hn
        | succ i =>
          have q := g i u e
          have hi : i < ns.length := by
            rw [l]
            exact (List.getElem?_eq_some_iff.mp (show vs[i]? = some u from e)).1
          rw [gi_lt hi] at q
          rw [gi_lt (show i + 1 < (n :: ns).length by rw [List.length_cons]; omega)]
          exact q
    obtain ⟨ns, l, g⟩ := mk ws hall
    rcases hb p ns hp l g with hb | hb
    · exact .row _ w (restS ws) hl (noteS_split h0 h) (restS_ok ws) lr p hp _ ws (restS_split h) lw ns l g 0 (Or.inl ⟨hb, rfl⟩)
    · cases hq : isPrime p with
      | false => exact .row _ w (restS ws) hl (noteS_split h0 h) (restS_ok ws) lr p hp _ ws (restS_split h) lw ns l g 0 (Or.inl ⟨hq, rfl⟩)
      | true => exact .row _ w (restS ws) hl (noteS_split h0 h) (restS_ok ws) lr p hp _ ws (restS_split h) lw ns l g 1 (Or.inr ⟨hq, hb, rfl⟩)
  · have fst : ∀ vs : List PySem.Str, (∀ v ∈ vs, BadW v ∨ ∃ n, IsW v n) → (¬ ∀ v ∈ vs, ∃ n, IsW v n) → ∃ j : Nat, j < vs.length ∧ (∀ i : Nat, i < j → ∃ v n, vs[i]? = some v ∧ IsW v n) ∧ ∃ v, vs[j]? = some v ∧ BadW v := by
      intro vs
      induction vs with
      | nil => exact fun _ z => absurd (fun v hv => nomatch hv) z
      | cons v vs ih =>
        intro hv hn
        by_cases hg : ∃ n, IsW v n
        · obtain ⟨j, a, b, c⟩ := ih (fun u hu => hv u (List.mem_cons_of_mem _ hu)) fun z => hn fun u hu => (List.mem_cons.mp hu).elim (fun e => e ▸ hg) (z u)
          refine ⟨j + 1, by rw [List.length_cons]; omega, fun i hi => ?_, c⟩
          cases i with
          | zero =>
            obtain ⟨n, hg⟩ := hg
            exact ⟨v, n, rfl, hg⟩
          | succ i => exact b i (by omega)
        · exact ⟨0, by rw [List.length_cons]; omega, fun i hi => absurd hi (by omega), v, rfl, (hv v (List.mem_cons_self ..)).resolve_right hg⟩
    obtain ⟨j, a, b, v, c, d⟩ := fst ws hs hall
    exact .word _ w (restS ws) hl (noteS_split h0 h) (restS_ok ws) lr p hp _ ws (restS_split h) lw j a b v c d
theorem bad_prime {w : PySem.Str} {ws : List PySem.Str} (hl : (noteS w ws).length ≤ 1000) (h0 : 58 ∉ TL.tl w) (h : ∀ v ∈ ws, Plain v) (hp : BadW w) : Bad (noteS w ws) := by
  refine .prime _ w (restS ws) hl (noteS_split h0 h) (restS_ok ws) ?_ hp
  rw [TL.len_tl, noteS_tl, List.length_append, List.length_cons] at hl
  rw [TL.len_tl, restS_tl]
  omega
end RF

namespace RF
open PySem PySem.Spec PyProof.Rows L2 Evl
/-! ### the spoiled texts are bad -/
theorem isW_inj {w : PySem.Str} {n m : Int} (h : IsW w n) (g : IsW w m) : n = m := by
  unfold IsW isWB at h g
  simp only [Bool.and_eq_true, decide_eq_true_eq] at h g
  exact Option.some.inj (h.2.symm.trans g.2)
theorem not_both {w : PySem.Str} {n : Int} (h : IsW w n) (g : BadW w) : False := by
  unfold IsW isWB at h
  unfold BadW badWB at g
  simp only [Bool.and_eq_true, Bool.or_eq_true, decide_eq_true_eq, List.all_eq_true] at h
  obtain ⟨⟨⟨⟨h1, h2⟩, h3⟩, h4⟩, _⟩ := h
  rw [Bool.and_eq_true, Bool.or_eq_true, Bool.or_eq_true, Bool.or_eq_true, Bool.and_eq_true] at g
  simp only [decide_eq_true_eq, List.any_eq_true] at g
  rcases g.2 with (g | g) | ⟨c, hc, g⟩
  · omega
  · rcases h3 with h3 | h3
    · omega
    · exact h3 g.1
  · have h5 := h4 c hc
    rw [figs_eq] at h5
    rw [decide_eq_true h5] at g
    cases g
theorem word_plain {n : Int} (h : 0 ≤ n) : Plain (word n) := by
  unfold Plain
  rw [word_tl h]
  exact ⟨TL.numL_free (by omega), TL.numL_free (by omega)⟩
theorem words_plain {p : Int} {row : List Int} (hn : Nums p row) : ∀ v ∈ row.map word, Plain v := fun v hv => by
  rw [List.mem_map] at hv
  obtain ⟨n, hm, rfl⟩ := hv
  exact word_plain (hn n hm).1
theorem words_isW {p : Int} {row : List Int} (hn : Nums p row) (hq : p ≤ 97) : ∀ v ∈ row.map word, ∃ n, IsW v n := fun v hv => by
  rw [List.mem_map] at hv
  obtain ⟨n, hm, rfl⟩ := hv
  have := hn n hm
  exact ⟨n, isW_word this.1 (by omega)⟩
theorem note_is (p : Int) (row : List Int) : noteOf p row = noteS (word p) (row.map word) := rfl
/-- as the law glues it -/
def glue (w : PySem.Str) (ws : List PySem.Str) : PySem.Str := w ++ ":" ++ PySem.Txt.join "" (ws.map fun v => (" " : PySem.Str) ++ v)
theorem glue_note (w : PySem.Str) (ws : List PySem.Str) : glue w ws = noteS w ws := by
  refine TL.ext_tl ?_
  unfold glue
  rw [noteS_tl, TL.tl_append, TL.tl_append, TL.join_eq, TL.tl_join, tl_none, tl_colon, joinL_nil, List.map_map, List.append_assoc]
  have z : ws.map (TL.tl ∘ fun v => (" " : PySem.Str) ++ v) = ws.map fun v => 32 :: TL.tl v := List.map_congr_left fun v _ => by
    show TL.tl ((" " : PySem.Str) ++ v) = _
    rw [TL.tl_append, tl_blank]
    rfl
  rw [z]
  rfl
theorem noteS_len (w : PySem.Str) (ws : List PySem.Str) (k : Nat) (hk : ∀ v ∈ ws, v.length ≤ k) : (noteS w ws).length ≤ w.length + 1 + (k + 1) * ws.length := by
  rw [TL.len_tl, noteS_tl, List.length_append, List.length_cons, TL.len_tl w]
  have z : ∀ vs : List PySem.Str, (∀ v ∈ vs, v.length ≤ k) → (vs.map fun w => 32 :: TL.tl w).flatten.length ≤ (k + 1) * vs.length := by
    intro vs
    induction vs with
    | nil => exact fun _ => Nat.le_refl 0
    | cons v vs ih =>
      intro h
      have h1 := ih fun u hu => h u (List.mem_cons_of_mem _ hu)
      have h2 := h v (List.mem_cons_self ..)
      rw [TL.len_tl] at h2
      rw [List.map_cons, List.flatten_cons, List.length_append, List.length_cons, List.length_cons, Nat.mul_succ]
      omega
  have := z ws hk
  omega
theorem words_len {p : Int} {row : List Int} (hn : Nums p row) (hq : p ≤ 97) : ∀ v ∈ row.map word, v.length ≤ 4 := fun v hv => by
  rw [List.mem_map] at hv
  obtain ⟨n, hm, rfl⟩ := hv
  have := hn n hm
  have := word_len this.1 (by omega)
  omega
def L0 : List PySem.Str := ["1", "4", "0", "02", "", "x", "-3", "+5", "101", "1_1", "7 ", " 7", "9", "99"]
theorem L0_all : (L0.all fun w => (badWB w || ([1, 4, 0, 9, 99] : List Int).any fun q => isWB w q && !isPrime q) && (!decide (58 ∈ w.cps.toList) && decide (w.length ≤ 3))) = true := by decide +kernel
theorem bad0 {p : Int} {row : List Int} {w : PySem.Str} (hn : Nums p row) (hq : p ≤ 97) (hr : row.length ≤ 24) (hw : w ∈ L0) : Bad (glue w (row.map word)) := by
  rw [glue_note]
  have a := List.all_eq_true.mp L0_all w hw
  rw [Bool.and_eq_true, Bool.and_eq_true, Bool.or_eq_true, decide_eq_true_eq, Bool.not_eq_true', decide_eq_false_iff_not, List.any_eq_true] at a
  obtain ⟨a1, a2, a3⟩ := a
  have hl := noteS_len w (row.map word) 4 (words_len hn hq)
  rw [List.length_map] at hl
  refine bad_words (by omega) a2 (words_plain hn) ?_ (fun v hv => Or.inr (words_isW hn hq v hv)) fun q ns hq2 _ _ => ?_
  · rcases a1 with a1 | ⟨q, _, a1⟩
    · exact Or.inl a1
    · rw [Bool.and_eq_true] at a1
      exact Or.inr ⟨q, a1.1⟩
  · rcases a1 with a1 | ⟨q2, _, a1⟩
    · exact (not_both hq2 a1).elim
    · rw [Bool.and_eq_true, Bool.not_eq_true'] at a1
      rw [isW_inj hq2 a1.1]
      exact Or.inl a1.2
def L1 : List PySem.Str := ["-1", "+1", "00", "01", "", "x", "1_0", "1.", "100", "0\t", "1,"]
theorem L1_all : (L1.all fun w => badWB w && (!decide (58 ∈ w.cps.toList) && (!decide (32 ∈ w.cps.toList) && decide (w.length ≤ 3)))) = true := by decide +kernel
theorem set_mem {α : Type} {xs : List α} {j : Nat} {x y : α} (h : y ∈ xs.set j x) : y ∈ xs ∨ y = x := by
  rcases List.mem_or_eq_of_mem_set h with h | h
  · exact Or.inl h
  · exact Or.inr h
theorem bad1 {p : Int} {row : List Int} {s : PySem.Str} {j : Nat} (hp0 : 2 ≤ p) (hn : Nums p row) (hq : p ≤ 97) (hr : row.length ≤ 24) (hj : j < row.length) (hs : s = word p ∨ s ∈ L1) : Bad (glue (word p) ((row.map word).set j s)) := by
  rw [glue_note]
  have hp2 := word_len (show (0 : Int) ≤ p by omega) (show p < 100 by omega)
  have hs2 : Plain s ∧ s.length ≤ 4 ∧ (BadW s ∨ ∃ n, IsW s n) ∧ ∀ n, IsW s n → n = p := by
    rcases hs with rfl | hs
    · exact ⟨word_plain (by omega), by omega, Or.inr ⟨p, isW_word (by omega) (by omega)⟩, fun n h => isW_inj h (isW_word (by omega) (by omega))⟩
    · have a := List.all_eq_true.mp L1_all s hs
      rw [Bool.and_eq_true, Bool.and_eq_true, Bool.and_eq_true, decide_eq_true_eq, Bool.not_eq_true', decide_eq_false_iff_not, Bool.not_eq_true', decide_eq_false_iff_not] at a
      exact ⟨⟨a.2.1, a.2.2.1⟩, by omega, Or.inl a.1, fun n h => (not_both h a.1).elim⟩
  have hl := noteS_len (word p) ((row.map word).set j s) 4 fun v hv => by
    rcases set_mem hv with hv | rfl
    · exact words_len hn hq v hv
    · exact hs2.2.1
  rw [List.length_set, List.length_map] at hl
  refine bad_words (by omega) (word_plain (by omega)).1 (fun v hv => ?_) (Or.inr ⟨p, isW_word (by omega) (by omega)⟩) (fun v hv => ?_) fun q ns hq2 hns hg => ?_
  · rcases set_mem hv with hv | rfl
    · exact words_plain hn v hv
    · exact hs2.1
  · rcases set_mem hv with hv | rfl
    · exact Or.inr (words_isW hn hq v hv)
    · exact hs2.2.2.1
  · have e := isW_inj hq2 (isW_word (show (0 : Int) ≤ p by omega) (by omega))
    subst e
    have hj2 : j < ((row.map word).set j s).length := by rw [List.length_set, List.length_map]; exact hj
    have g := hg j s (by rw [List.getElem?_set_self (by rw [List.length_map]; exact hj)])
    have g2 := hs2.2.2.2 _ g
    rw [gi_lt (by omega)] at g2
    exact Or.inr (bad_num (x := ns[j]'(by omega)) (List.getElem_mem _) (by omega))
/-- no colon -/
theorem split_none {z : PySem.Str} (h : 58 ∉ TL.tl z) : PySem.Txt.split z ":" = [z] := by
  have e : PySem.Txt.join ":" [z] = z := TL.ext_tl (by rw [TL.join_eq, TL.tl_join]; rfl)
  have q := TL.split_join (y := ":") (parts := [z]) tl_colon (by decide +kernel) (by simp) fun q hq => by
    rw [List.mem_singleton] at hq
    subst hq
    exact h
  rw [e] at q
  exact q
theorem bad_none {z : PySem.Str} (hl : z.length ≤ 1000) (h : 58 ∉ TL.tl z) : Bad z := .parts z hl (by rw [split_none h]; show 1 ≠ 2; decide) (by rw [split_none h]; show 1 ≤ 1000; decide)
theorem bad_three {a b c : PySem.Str} (ha : 58 ∉ TL.tl a) (hb : 58 ∉ TL.tl b) (hc : 58 ∉ TL.tl c) (hl : (PySem.Txt.join ":" [a, b, c]).length ≤ 1000) : Bad (PySem.Txt.join ":" [a, b, c]) := by
  have q := TL.split_join (y := ":") (parts := [a, b, c]) tl_colon (by decide +kernel) (by simp) fun q hq => by
    simp only [List.mem_cons, List.not_mem_nil, or_false] at hq
    rcases hq with rfl | rfl | rfl
    · exact ha
    · exact hb
    · exact hc
  exact .parts _ hl (by rw [q]; show 3 ≠ 2; decide) (by rw [q]; show 3 ≤ 1000; decide)
theorem bad_rest {a b : PySem.Str} {c : Nat} {t : List Nat} (ha : 58 ∉ TL.tl a) (hb : 58 ∉ TL.tl b) (he : TL.tl b = c :: t) (hc : c ≠ 32) (hl : (PySem.Txt.join ":" [a, b]).length ≤ 1000) : Bad (PySem.Txt.join ":" [a, b]) := by
  have q := TL.split_join (y := ":") (parts := [a, b]) tl_colon (by decide +kernel) (by simp) fun q hq => by
    simp only [List.mem_cons, List.not_mem_nil, or_false] at hq
    rcases hq with rfl | rfl
    · exact ha
    · exact hb
  refine .blank _ a b hl q c t he hc ?_
  rw [TL.len_tl, TL.join_eq, TL.tl_join] at hl
  have hl2 : (TL.tl a ++ (TL.tl (":" : PySem.Str) ++ TL.tl b)).length ≤ 1000 := hl
  rw [List.length_append, List.length_append] at hl2
  rw [TL.len_tl]
  omega
/-! #### another colon -/
theorem colon_sign : (":" : PySem.Str) = ⟨#[58]⟩ := by decide
theorem repl_tl {p : Int} {row : List Int} (hp : 0 ≤ p) (hn : Nums p row) (z : PySem.Str) : TL.tl (PySem.Txt.replace (noteOf p row) ":" z) = TL.tl (word p) ++ (TL.tl z ++ TL.tl (restS (row.map word))) := by
  rw [colon_sign, PySem.StrLaws.replace_one, ← colon_sign, note_split hp hn, TL.tl_join]
  rfl
theorem bad2 {p : Int} {row : List Int} {z : PySem.Str} (hp0 : 2 ≤ p) (hn : Nums p row) (hq : p ≤ 97) (hr : row.length ≤ 24) (hz : z = "" ∨ z = ";" ∨ z = "::" ∨ z = " :") : Bad (PySem.Txt.replace (noteOf p row) ":" z) := by
  have hp2 := word_len (show (0 : Int) ≤ p by omega) (show p < 100 by omega)
  have e := repl_tl (p := p) (by omega) hn z
  have fw := (word_plain (show (0 : Int) ≤ p by omega)).1
  have fr := restS_free (words_plain hn)
  have hl : (noteS (word p) (row.map word)).length ≤ 1000 := by
    have := noteS_len (word p) (row.map word) 4 (words_len hn hq)
    rw [List.length_map] at this
    omega
  rw [TL.len_tl, noteS_tl, ← restS_tl, List.length_append, List.length_cons] at hl
  have lw := word_len (show (0 : Int) ≤ p by omega) (show p < 100 by omega)
  have lall : (TL.tl (restS (row.map word))).length ≤ 200 := by
    have := noteS_len (word p) (row.map word) 4 (words_len hn hq)
    rw [List.length_map, TL.len_tl, noteS_tl, ← restS_tl, List.length_append, List.length_cons, TL.len_tl (word p)] at this
    omega
  rw [TL.len_tl] at lw
  rcases hz with rfl | rfl | rfl | rfl
  · refine bad_none ?_ ?_
    · rw [TL.len_tl, e, List.length_append, List.length_append, tl_none, List.length_nil]
      omega
    · rw [e, tl_none, List.nil_append, List.mem_append]
      exact fun h => h.elim fw fr
  · have t : TL.tl (";" : PySem.Str) = [59] := by decide
    refine bad_none ?_ ?_
    · rw [TL.len_tl, e, List.length_append, List.length_append, t, List.length_singleton]
      omega
    · rw [e, t, List.mem_append, List.mem_append, List.mem_singleton]
      exact fun h => h.elim fw fun h => h.elim (by omega) fr
  · have t : TL.tl ("::" : PySem.Str) = [58, 58] := by decide
    have g : PySem.Txt.replace (noteOf p row) ":" "::" = PySem.Txt.join ":" [word p, "", restS (row.map word)] := TL.ext_tl (by
      rw [e, t, TL.join_eq, TL.tl_join, tl_colon]
      rfl)
    rw [g]
    refine bad_three fw (by decide) fr ?_
    rw [← g, TL.len_tl, e, List.length_append, List.length_append, t]
    show _ + (2 + _) ≤ _
    omega
  · have t : TL.tl (" :" : PySem.Str) = [32, 58] := by decide
    have g : PySem.Txt.replace (noteOf p row) ":" " :" = noteS (word p ++ " ") (row.map word) := TL.ext_tl (by
      rw [e, t, noteS_tl, TL.tl_append, tl_blank, restS_tl]
      simp)
    rw [g]
    refine bad_prime ?_ ?_ (words_plain hn) (badW_sign (c := 32) ?_ ?_ (by decide))
    · rw [← g, TL.len_tl, e, List.length_append, List.length_append, t]
      show _ + (2 + _) ≤ _
      omega
    · rw [TL.tl_append, tl_blank, List.mem_append, List.mem_singleton]
      exact fun h => h.elim fw (by omega)
    · rw [TL.len_tl, TL.tl_append, tl_blank, List.length_append, List.length_singleton]
      omega
    · rw [TL.tl_append, tl_blank]
      simp
end RF
namespace RF
open PySem PySem.Spec PyProof.Rows L2 Evl
theorem note_front (t w : PySem.Str) (ws : List PySem.Str) : t ++ noteS w ws = noteS (t ++ w) ws := TL.ext_tl (by rw [TL.tl_append, noteS_tl, noteS_tl, TL.tl_append, List.append_assoc])
theorem note_back (t w v : PySem.Str) (ws : List PySem.Str) : noteS w (ws ++ [v]) ++ t = noteS w (ws ++ [v ++ t]) := TL.ext_tl (by
  rw [TL.tl_append, noteS_tl, noteS_tl, List.map_append, List.map_append, List.flatten_append, List.flatten_append]
  simp
  exact (TL.tl_append v t).symm)
theorem note_more (w : PySem.Str) (ws vs : List PySem.Str) (t : PySem.Str) (h : TL.tl t = (vs.map fun v => 32 :: TL.tl v).flatten) : noteS w ws ++ t = noteS w (ws ++ vs) := TL.ext_tl (by
  rw [TL.tl_append, noteS_tl, noteS_tl, List.map_append, List.flatten_append, h]
  simp)
theorem last_of {α : Type} : ∀ {xs : List α}, xs ≠ [] → ∃ ys y, xs = ys ++ [y]
  | [], h => absurd rfl h
  | x :: xs, _ => ⟨(x :: xs).dropLast, (x :: xs).getLast (by simp), (List.dropLast_concat_getLast (by simp)).symm⟩
/-- a sign behind the last word -/
theorem bad_back {p : Int} {row : List Int} {w t : PySem.Str} {c : Nat} (hw0 : 58 ∉ TL.tl w) (hw : ∃ q, IsW w q) (hn : Nums p row) (hq : p ≤ 97) (hr : row.length ≤ 24) (hwl : w.length ≤ 4) (ht : TL.tl t = [c]) (hc : c ∉ figs) (h58 : c ≠ 58) (h32 : c ≠ 32) :
    Bad (noteS w (row.map word) ++ t) := by
  have hl := noteS_len w (row.map word) 4 (words_len hn hq)
  rw [List.length_map] at hl
  have tl1 : t.length = 1 := by rw [TL.len_tl, ht]; rfl
  by_cases he : row = []
  · subst he
    have g : noteS w (([] : List Int).map word) ++ t = PySem.Txt.join ":" [w, t] := TL.ext_tl (by
      rw [TL.tl_append, noteS_tl, TL.join_eq, TL.tl_join, tl_colon]
      show _ = TL.tl w ++ ([58] ++ TL.tl t)
      simp)
    rw [g]
    refine bad_rest hw0 (by rw [ht, List.mem_singleton]; exact fun h => h58 h.symm) ht h32 ?_
    rw [← g, TL.len_tl, TL.tl_append, List.length_append, ← TL.len_tl, ht, List.length_singleton]
    omega
  · obtain ⟨ini, la, rfl⟩ := last_of he
    have hla := hn la (by simp)
    have wla := word_plain hla.1
    have lla := word_len hla.1 (by omega)
    have e : noteS w ((ini ++ [la]).map word) ++ t = noteS w (ini.map word ++ [word la ++ t]) := by
      rw [List.map_append]
      exact note_back t w (word la) (ini.map word)
    have hl2 : (noteS w (ini.map word ++ [word la ++ t])).length ≤ 1000 := by
      rw [← e, TL.len_tl, TL.tl_append, List.length_append, ← TL.len_tl, ht, List.length_singleton]
      omega
    rw [e]
    have hni : Nums p ini := fun x hx => hn x (by simp [hx])
    have bad : BadW (word la ++ t) := badW_sign (c := c) (by rw [TL.len_tl, TL.tl_append, List.length_append, ← TL.len_tl, ht, List.length_singleton]; omega) (by rw [TL.tl_append, ht]; simp) hc
    refine bad_words hl2 hw0 (fun v hv => ?_) (Or.inr hw) (fun v hv => ?_) fun q ns _ hns hg => ?_
    · rw [List.mem_append, List.mem_singleton] at hv
      rcases hv with hv | rfl
      · exact words_plain hni v hv
      · unfold Plain
        rw [TL.tl_append, ht, List.mem_append, List.mem_append, List.mem_singleton, List.mem_singleton]
        exact ⟨fun h => h.elim wla.1 fun h => h58 h.symm, fun h => h.elim wla.2 fun h => h32 h.symm⟩
    · rw [List.mem_append, List.mem_singleton] at hv
      rcases hv with hv | rfl
      · exact Or.inr (words_isW hni hq v hv)
      · exact Or.inl bad
    · have g := hg ini.length (word la ++ t) (by rw [List.getElem?_append_right (by rw [List.length_map]; exact Nat.le_refl _), List.length_map, Nat.sub_self]; rfl)
      exact (not_both g bad).elim
/-- a sign ahead of the prime -/
theorem bad_front {p : Int} {row : List Int} {t : PySem.Str} {c : Nat} (hp0 : 2 ≤ p) (hn : Nums p row) (hq : p ≤ 97) (hr : row.length ≤ 24) (ht : TL.tl t = [c]) (hc : c ∉ figs) (h58 : c ≠ 58) : Bad (t ++ noteOf p row) := by
  rw [note_is, note_front]
  have hl := noteS_len (word p) (row.map word) 4 (words_len hn hq)
  have lw := word_len (show (0 : Int) ≤ p by omega) (show p < 100 by omega)
  rw [List.length_map] at hl
  have tl1 : t.length = 1 := by rw [TL.len_tl, ht]; rfl
  refine bad_prime ?_ ?_ (words_plain hn) (badW_sign (c := c) ?_ ?_ hc)
  · rw [← note_front, TL.len_tl, TL.tl_append, List.length_append, ← TL.len_tl, ← TL.len_tl]
    omega
  · rw [TL.tl_append, ht, List.mem_append, List.mem_singleton]
    exact fun h => h.elim (fun h => h58 h.symm) (word_plain (by omega)).1
  · rw [TL.len_tl, TL.tl_append, List.length_append, ← TL.len_tl, ← TL.len_tl]
    omega
  · rw [TL.tl_append, ht]
    simp
def texts3 (z : PySem.Str) : List PySem.Str := [" " ++ z, z ++ " ", z ++ "\n", "\t" ++ z, PySem.Txt.replace z ":" ": ", "(" ++ z ++ ")"]
theorem bad3 {p : Int} {row : List Int} {z : PySem.Str} (hp0 : 2 ≤ p) (hn : Nums p row) (hq : p ≤ 97) (hr : row.length ≤ 24) (hz : z ∈ texts3 (noteOf p row)) : Bad z := by
  have iw : IsW (word p) p := isW_word (by omega) (by omega)
  have lw := word_len (show (0 : Int) ≤ p by omega) (show p < 100 by omega)
  have pw0 := word_plain (show (0 : Int) ≤ p by omega)
  have hl := noteS_len (word p) (row.map word) 4 (words_len hn hq)
  rw [List.length_map] at hl
  have eb : BadW "" := by unfold BadW; decide
  simp only [texts3, List.mem_cons, List.not_mem_nil, or_false] at hz
  rcases hz with rfl | rfl | rfl | rfl | rfl | rfl
  · exact bad_front hp0 hn hq hr (c := 32) (by decide) (by decide) (by decide)
  · rw [note_is, note_more (word p) (row.map word) [""] " " (by rw [tl_blank]; rfl)]
    refine bad_words ?_ pw0.1 (fun v hv => ?_) (Or.inr ⟨p, iw⟩) (fun v hv => ?_) fun q ns _ hns hg => ?_
    · rw [← note_more (word p) (row.map word) [""] " " (by rw [tl_blank]; rfl), TL.len_tl, TL.tl_append, List.length_append, ← TL.len_tl, tl_blank, List.length_singleton]
      omega
    · rw [List.mem_append, List.mem_singleton] at hv
      rcases hv with hv | rfl
      · exact words_plain hn v hv
      · unfold Plain
        decide
    · rw [List.mem_append, List.mem_singleton] at hv
      rcases hv with hv | rfl
      · exact Or.inr (words_isW hn hq v hv)
      · exact Or.inl eb
    · have g := hg row.length "" (by rw [List.getElem?_append_right (by rw [List.length_map]; exact Nat.le_refl _), List.length_map, Nat.sub_self]; rfl)
      exact (not_both g eb).elim
  · exact bad_back pw0.1 ⟨p, iw⟩ hn hq hr (by omega) (c := 10) (by decide) (by decide) (by decide) (by decide)
  · exact bad_front hp0 hn hq hr (c := 9) (by decide) (by decide) (by decide)
  · have t : TL.tl (": " : PySem.Str) = [58, 32] := by decide
    have g : PySem.Txt.replace (noteOf p row) ":" ": " = noteS (word p) ("" :: row.map word) := TL.ext_tl (by
      rw [repl_tl (by omega) hn, t, noteS_tl, restS_tl]
      rfl)
    rw [g]
    refine bad_words ?_ pw0.1 (fun v hv => ?_) (Or.inr ⟨p, iw⟩) (fun v hv => ?_) fun q ns _ hns hg => ?_
    · have := noteS_len (word p) ("" :: row.map word) 4 fun v hv => by
        rcases List.mem_cons.mp hv with rfl | hv
        · decide
        · exact words_len hn hq v hv
      rw [List.length_cons, List.length_map] at this
      omega
    · rcases List.mem_cons.mp hv with rfl | hv
      · unfold Plain
        decide
      · exact words_plain hn v hv
    · rcases List.mem_cons.mp hv with rfl | hv
      · exact Or.inl eb
      · exact Or.inr (words_isW hn hq v hv)
    · exact (not_both (hg 0 "" rfl) eb).elim
  · have tb : TL.tl ("(" : PySem.Str) = [40] := by decide
    have te : TL.tl (")" : PySem.Str) = [41] := by decide
    have w0 : 58 ∉ TL.tl (("(" : PySem.Str) ++ word p) := by
      rw [TL.tl_append, tb, List.mem_append, List.mem_singleton]
      exact fun h => h.elim (by omega) pw0.1
    have bw : BadW (("(" : PySem.Str) ++ word p) := badW_sign (c := 40) (by rw [TL.len_tl, TL.tl_append, List.length_append, ← TL.len_tl, ← TL.len_tl]; show 1 + _ ≤ _; omega) (by rw [TL.tl_append, tb]; simp) (by decide)
    have hlen : (noteS (("(" : PySem.Str) ++ word p) (row.map word) ++ (")" : PySem.Str)).length ≤ 1000 := by
      rw [← note_front, TL.len_tl, TL.tl_append, TL.tl_append, List.length_append, List.length_append, ← TL.len_tl (noteS _ _), tb, te]
      show 1 + _ + 1 ≤ _
      omega
    rw [note_is, note_front]
    by_cases he : row = []
    · subst he
      have g : noteS (("(" : PySem.Str) ++ word p) (([] : List Int).map word) ++ (")" : PySem.Str) = PySem.Txt.join ":" [("(" : PySem.Str) ++ word p, ")"] := TL.ext_tl (by
        rw [TL.tl_append, noteS_tl, TL.join_eq, TL.tl_join, tl_colon]
        show _ = TL.tl (("(" : PySem.Str) ++ word p) ++ ([58] ++ TL.tl (")" : PySem.Str))
        simp)
      rw [g] at hlen ⊢
      exact bad_rest w0 (by decide) te (by decide) hlen
    · obtain ⟨ini, la, rfl⟩ := last_of he
      have hla := hn la (by simp)
      have wla := word_plain hla.1
      have hni : Nums p ini := fun x hx => hn x (by simp [hx])
      rw [List.map_append] at hlen ⊢
      have e := note_back ")" (("(" : PySem.Str) ++ word p) (word la) (ini.map word)
      have e : noteS (("(" : PySem.Str) ++ word p) (ini.map word ++ [la].map word) ++ (")" : PySem.Str) = noteS (("(" : PySem.Str) ++ word p) (ini.map word ++ [word la ++ ")"]) := e
      rw [e] at hlen ⊢
      refine bad_prime hlen w0 (fun v hv => ?_) bw
      rw [List.mem_append, List.mem_singleton] at hv
      rcases hv with hv | rfl
      · exact words_plain hni v hv
      · unfold Plain
        rw [TL.tl_append, te, List.mem_append, List.mem_append, List.mem_singleton, List.mem_singleton]
        exact ⟨fun h => h.elim wla.1 (by omega), fun h => h.elim wla.2 (by omega)⟩
/-- " 0" so many times -/
def repS (z : PySem.Str) (n : Nat) : PySem.Str := ⟨(List.replicate n z.cps).foldl (· ++ ·) #[]⟩
theorem fold_app (z : Array Nat) : ∀ (n : Nat) (a : Array Nat), ((List.replicate n z).foldl (· ++ ·) a).toList = a.toList ++ (List.replicate n z.toList).flatten
  | 0, a => by simp
  | n + 1, a => by
    rw [List.replicate_succ, List.foldl_cons, fold_app z n, List.replicate_succ, List.flatten_cons, Array.toList_append, List.append_assoc]
theorem repS_tl (z : PySem.Str) (n : Nat) : TL.tl (repS z n) = (List.replicate n (TL.tl z)).flatten := by
  show ((List.replicate n z.cps).foldl (· ++ ·) #[]).toList = _
  rw [fold_app]
  rfl
theorem bad4 {p : Int} {row : List Int} {n : Nat} (hp0 : 2 ≤ p) (hn : Nums p row) (hq : p ≤ 97) (hr : row.length ≤ 24) (h31 : 31 ≤ row.length + n) (hn2 : n ≤ 40) : Bad (noteOf p row ++ repS " 0" n) := by
  have e0 : word 0 = "0" := by decide +kernel
  have t0 : TL.tl (" 0" : PySem.Str) = 32 :: TL.tl (word 0) := by
    rw [e0]
    decide
  have key : noteOf p row ++ repS " 0" n = noteS (word p) (row.map word ++ List.replicate n (word 0)) := by
    rw [note_is]
    exact note_more _ _ _ _ (by rw [repS_tl, t0, List.map_replicate])
  rw [key]
  have iw : IsW (word p) p := isW_word (by omega) (by omega)
  have lw := word_len (show (0 : Int) ≤ p by omega) (show p < 100 by omega)
  have i0 : IsW (word 0) 0 := isW_word (by omega) (by omega)
  have hl := noteS_len (word p) (row.map word ++ List.replicate n (word 0)) 4 fun v hv => by
    rcases List.mem_append.mp hv with hv | hv
    · exact words_len hn hq v hv
    · rw [List.eq_of_mem_replicate hv, e0]
      decide
  rw [List.length_append, List.length_map, List.length_replicate] at hl
  refine bad_words (by omega) (word_plain (by omega)).1 (fun v hv => ?_) (Or.inr ⟨p, iw⟩) (fun v hv => ?_) fun q ns _ hns hg => ?_
  · rcases List.mem_append.mp hv with hv | hv
    · exact words_plain hn v hv
    · rw [List.eq_of_mem_replicate hv]
      exact word_plain (by omega)
  · rcases List.mem_append.mp hv with hv | hv
    · exact Or.inr (words_isW hn hq v hv)
    · rw [List.eq_of_mem_replicate hv]
      exact Or.inr ⟨0, i0⟩
  · refine Or.inr (bad_len ?_)
    rw [hns, List.length_append, List.length_map, List.length_replicate]
    omega
def L5 : List PySem.Str := ["", ":", " ", "2", "2 1", "2:1", "2:0 1", "2: 0  1", "2::", "2: 2", "3: 0 1 2 3"]
/-- a concrete note: told by a table -/
def noteB (z w : PySem.Str) (ws : List PySem.Str) : Bool := decide (z.length ≤ 1000) && decide (z = noteS w ws) && !decide (58 ∈ w.cps.toList) && (ws.all fun v => !decide (58 ∈ v.cps.toList) && !decide (32 ∈ v.cps.toList))
theorem noteB_of {z w : PySem.Str} {ws : List PySem.Str} (h : noteB z w ws = true) : z.length ≤ 1000 ∧ z = noteS w ws ∧ 58 ∉ TL.tl w ∧ ∀ v ∈ ws, Plain v := by
  unfold noteB at h
  rw [Bool.and_eq_true, Bool.and_eq_true, Bool.and_eq_true, decide_eq_true_eq, decide_eq_true_eq, Bool.not_eq_true', decide_eq_false_iff_not, List.all_eq_true] at h
  refine ⟨h.1.1.1, h.1.1.2, h.1.2, fun v hv => ?_⟩
  have := h.2 v hv
  rw [Bool.and_eq_true, Bool.not_eq_true', decide_eq_false_iff_not, Bool.not_eq_true', decide_eq_false_iff_not] at this
  exact this
theorem bad5 {z : PySem.Str} (hz : z ∈ L5) : Bad z := by
  simp only [L5, List.mem_cons, List.not_mem_nil, or_false] at hz
  rcases hz with rfl | rfl | rfl | rfl | rfl | rfl | rfl | rfl | rfl | rfl | rfl
  · exact bad_none (by decide) (by decide)
  · obtain ⟨a, b, c, d⟩ := noteB_of (show noteB ":" "" [] = true by decide +kernel)
    rw [b] at a ⊢
    exact bad_prime a c d (by unfold BadW; decide)
  · exact bad_none (by decide) (by decide)
  · exact bad_none (by decide) (by decide)
  · exact bad_none (by decide) (by decide)
  · have g : ("2:1" : PySem.Str) = PySem.Txt.join ":" ["2", "1"] := by decide +kernel
    rw [g]
    exact bad_rest (c := 49) (t := []) (by decide) (by decide) (by decide) (by decide) (by rw [← g]; decide)
  · have g : ("2:0 1" : PySem.Str) = PySem.Txt.join ":" ["2", "0 1"] := by decide +kernel
    rw [g]
    exact bad_rest (c := 48) (t := [32, 49]) (by decide) (by decide) (by decide) (by decide) (by rw [← g]; decide)
  · obtain ⟨a, b, c, d⟩ := noteB_of (show noteB "2: 0  1" "2" ["0", "", "1"] = true by decide +kernel)
    rw [b] at a ⊢
    have i2 : IsW "2" 2 := by unfold IsW; decide +kernel
    have i0 : IsW "0" 0 := by unfold IsW; decide +kernel
    have i1 : IsW "1" 1 := by unfold IsW; decide +kernel
    have eb : BadW "" := by unfold BadW; decide
    refine bad_words a c d (Or.inr ⟨2, i2⟩) (fun v hv => ?_) fun q ns _ hns hg => (not_both (hg 1 "" rfl) eb).elim
    simp only [List.mem_cons, List.not_mem_nil, or_false] at hv
    rcases hv with rfl | rfl | rfl
    · exact Or.inr ⟨0, i0⟩
    · exact Or.inl eb
    · exact Or.inr ⟨1, i1⟩
  · have g : ("2::" : PySem.Str) = PySem.Txt.join ":" ["2", "", ""] := by decide +kernel
    rw [g]
    exact bad_three (by decide) (by decide) (by decide) (by rw [← g]; decide)
  · obtain ⟨a, b, c, d⟩ := noteB_of (show noteB "2: 2" "2" ["2"] = true by decide +kernel)
    rw [b] at a ⊢
    have i2 : IsW "2" 2 := by unfold IsW; decide +kernel
    refine bad_words a c d (Or.inr ⟨2, i2⟩) (fun v hv => ?_) fun q ns hq hns hg => ?_
    · rw [List.mem_singleton] at hv
      subst hv
      exact Or.inr ⟨2, i2⟩
    · have e := isW_inj hq i2
      have e2 := isW_inj (hg 0 "2" rfl) i2
      subst e
      have h1 : 0 < ns.length := by rw [hns]; exact Nat.one_pos
      have e3 := gi_lt (ns := ns) (i := 0) h1
      exact Or.inr (bad_num (x := ns[0]'h1) (List.getElem_mem _) (by rw [← e3]; omega))
  · obtain ⟨a, b, c, d⟩ := noteB_of (show noteB "3: 0 1 2 3" "3" ["0", "1", "2", "3"] = true by decide +kernel)
    rw [b] at a ⊢
    have i0 : IsW "0" 0 := by unfold IsW; decide +kernel
    have i1 : IsW "1" 1 := by unfold IsW; decide +kernel
    have i2 : IsW "2" 2 := by unfold IsW; decide +kernel
    have i3 : IsW "3" 3 := by unfold IsW; decide +kernel
    refine bad_words a c d (Or.inr ⟨3, i3⟩) (fun v hv => ?_) fun q ns hq hns hg => ?_
    · simp only [List.mem_cons, List.not_mem_nil, or_false] at hv
      rcases hv with rfl | rfl | rfl | rfl
      · exact Or.inr ⟨0, i0⟩
      · exact Or.inr ⟨1, i1⟩
      · exact Or.inr ⟨2, i2⟩
      · exact Or.inr ⟨3, i3⟩
    · have e := isW_inj hq i3
      have e2 := isW_inj (hg 3 "3" rfl) i3
      subst e
      have h1 : 3 < ns.length := by rw [hns]; show 3 < 4; decide
      have e3 := gi_lt (ns := ns) (i := 3) h1
      exact Or.inr (bad_num (x := ns[3]'h1) (List.getElem_mem _) (by rw [← e3]; omega))
end RF

namespace RF
open PySem PySem.Spec PyProof.Rows L2 Evl
/-! ### law k17: one token out; replace by an item of a written list; a text so many times -/
section
variable {X : Cx}
theorem pst_set {i : Nat} {x : PySem.Str} {e : Expr} {te : TE} {pos' pos : Pos} (hN : X.N.Nodup) (hi : X.N[i]? = some x) (hx : Loc X.env.scope x) (he : PET X e te) (hs : swapsWith e (some (.Name x pos')) pos.line X.env = pure false := by rfl)
    (hf : X.fn x = true ∨ X.env.scope.names.lookup x = some .local := by first | exact .inl rfl | exact .inr rfl | assumption) : PST X (.Assign [.Name x pos'] e pos) (tAsg te (gName i)) := fun pins s σ H D h0 I h =>
  wpAny_Assign_Name (thn (he pins s σ H _ h0 I h) fun v s1 hv =>
    let ⟨_, H1, I1, r1, q1⟩ := hv
    store_ok I1 hN hi hx r1 (fun s2 I2 => ⟨_, H1, I2, q1⟩) hf) hs
/-- behind a test against a written int a token is out -/
theorem pss_ifT {op : CmpOp} {r : R2} {a : Expr} {ta : TE} {k : Int} {j : Nat} {cp pos pos2 : Pos} {body rest : List Stmt} {t u : TS} (ho : OpR X (compareOp op) r) (ha : PE X a ta) (hm : behindInMarks op (.Constant (.int k) j cp) = false) (hb : PSsT X body t) (hr : PSsT X rest u) :
    PSs X (.If (.Compare a [op] [.Constant (.int k) j cp] pos) body [] pos2 :: rest) (tSeq (tIfS (tTest (tOp r ta (tC (.int k)))) t tNext) u) := by
  refine ⟨fun pins s σ H D I h => wpAny_execs_cons (wpAny_If ?_)⟩
  refine wpAny_isTrue_Compare1 (thn (ha.run pins s σ H _ I h) fun v s1 h1 => wpAny_Constant_int ?_) hm
  obtain ⟨x, H1, I1, r1, q1⟩ := h1
  refine wpAny_mono (PySem.wpAny_toks_of (n := 1) (show 1 ≤ s1.toks + 1 by omega) (ho pins _ σ H1 x (.int k) v _ _ (I1.tok (s1.toks + 1)) r1 ⟨_, rfl⟩ q1)) (fun c s3 h3 => ?_) fun _ _ z => z.2
  obtain ⟨hk, z, H3, I3, r3, b, e, q3⟩ := h3
  subst e
  cases r3
  refine wpAny_truthy_bool ?_
  cases b with
  | false =>
    show wpAny _ _ (execs [] X.env) _ _ _
    exact wpAny_execs_nil (hr pins s3 σ H3 D hk I3 q3)
  | true =>
    show wpAny _ _ (execs body X.env) _ _ _
    refine wpAny_mono (PySem.wpAny_toks_of (n := 1) hk (hb pins s3 σ H3 { D with nx := u D } hk I3 q3)) (fun f s4 h4 => ?_) fun _ _ z => z.2
    obtain ⟨hk4, h4⟩ := h4
    cases f with
    | next =>
      obtain ⟨σ4, H4, I4, q4⟩ := h4
      exact hr pins s4 σ4 H4 D hk4 I4 q4
    | ret w => exact h4
    | brk => exact h4
    | cont => exact h4
/-- o.replace(y, [z0, z1, z2, z3][i]) -/
def tReplIx (to ti : TE) (y : PySem.Str) (zs : List PySem.Str) : TE := fun σ H Q => to σ H fun v H1 => ∃ x, v = .str x ∧ (∀ z ∈ zs, x.length + (x.length + 1) * z.length ≤ 16777216 ∧ (y == z) = false) ∧
  ti σ H1 fun w H2 => ∃ i z, w = .int i ∧ 0 ≤ i ∧ zs[i.toNat]? = some z ∧ Q (.str (PySem.Txt.replace x y z)) H2
theorem pet_replIx {o idx : Expr} {to ti : TE} {y z0 z1 z2 z3 : PySem.Str} {j j0 j1 j2 j3 : Nat} {apos pos c c0 c1 c2 c3 lp sp : Pos} (ho : PE X o to) (hi : PE X idx ti) (hx : PlainIx idx)
    (hst : starEach [.Constant (.str y) j c, .Subscript (.List [.Constant (.str z0) j0 c0, .Constant (.str z1) j1 c1, .Constant (.str z2) j2 c2, .Constant (.str z3) j3 c3] lp) idx sp] X.env =
      [(false, eval (.Constant (.str y) j c) X.env), (false, eval (.Subscript (.List [.Constant (.str z0) j0 c0, .Constant (.str z1) j1 c1, .Constant (.str z2) j2 c2, .Constant (.str z3) j3 c3] lp) idx sp) X.env)] := by rfl)
    (hbase : attributeBase o "replace" X.env (eval o X.env) = eval o X.env := by rfl) (hline : (apos.endLine == pos.line) = true := by rfl) :
    PET X (.Call (.Attribute o "replace" apos) [.Constant (.str y) j c, .Subscript (.List [.Constant (.str z0) j0 c0, .Constant (.str z1) j1 c1, .Constant (.str z2) j2 c2, .Constant (.str z3) j3 c3] lp) idx sp] [] pos) (tReplIx to ti y [z0, z1, z2, z3]) := by
  intro pins s σ H Q h0 I h
  refine PySem.Call_method2 hbase hst hline (wpAny_mono (PySem.wpAny_toks_of (n := 1) h0 (ho.run pins s σ H _ I h)) (fun v s1 q => ?_) fun _ _ z => z.2)
  obtain ⟨hk, v', H1, I1, r1, x, e1, hb, q⟩ := q
  subst e1
  obtain ⟨tx, e2⟩ := r1
  subst e2
  refine ⟨"str", _, PySem.F.plainAttrs_str, PySem.F.slot_str_replace, PySem.F.type_str_replace, typeIs_str _ _ _, (fun _ e => nomatch e), Calls.callWith_builtin rfl (Calls.evalArgs_plain (Calls.spliced_cons ?_))⟩
  refine Calls.Constant_str (Calls.spliced_cons (Subscript_ (wpAny_List_spliced ?_)))
  show wpAny _ _ (spliced [(false, eval (.Constant (.str z0) j0 c0) X.env), (false, eval (.Constant (.str z1) j1 c1) X.env), (false, eval (.Constant (.str z2) j2 c2) X.env), (false, eval (.Constant (.str z3) j3 c3) X.env)]) _ _ _
  refine Calls.spliced_cons (Calls.Constant_str (Calls.spliced_cons (Calls.Constant_str (Calls.spliced_cons (Calls.Constant_str (Calls.spliced_cons (Calls.Constant_str (Calls.spliced_nil ⟨by show 4 ≤ sizeLine; decide, ?_⟩))))))))
  dsimp only
  generalize hT : s1.toks = T at hk
  have ob := Heap.get?_push_size s1.heap (o := { cls := .type "list", data := .seq [Value.str z0 (T + 1), .str z1 (T + 1 + 1), .str z2 (T + 1 + 1 + 1), .str z3 (T + 1 + 1 + 1 + 1)].toArray }) rfl
  have I2 : L2.Inv X pins σ H1 { s1 with heap := s1.heap.push { cls := .type "list", data := .seq [Value.str z0 (T + 1), .str z1 (T + 1 + 1), .str z2 (T + 1 + 1 + 1), .str z3 (T + 1 + 1 + 1 + 1)].toArray }, toks := T + 1 + 1 + 1 + 1 + 1 } := I1.kept fun b u e => Heap.get?_push_of_some _ e
  have fp := I1.fpOk (H' := H1) (Nat.le_refl s1.heap.objs.size) (I1.hok.fresh (Nat.le_refl _))
  have I3 := I2.pinned (fp := [s1.heap.objs.size]) (fun b hb' => by
    rw [List.mem_singleton] at hb'
    subst hb'
    exact fp) (fun b hb' => by
    rw [List.mem_singleton] at hb'
    subst hb'
    exact ⟨_, ob, fun v e => nomatch e⟩)
  refine thn (hi.run _ _ σ H1 _ I3 q) fun u s4 h4 => ?_
  obtain ⟨w, H4, I4, r4, i, z, e4, hi0, hz, q4⟩ := h4
  subst e4
  obtain ⟨tu, e5⟩ := r4
  subst e5
  have pin := (I4.pin (s1.heap.objs.size, _) (List.mem_append_right _ (List.mem_append_right _ (mem_pinsAt (List.mem_singleton.mpr rfl) ob)))).1
  have isl : s4.heap.IsList s1.heap.objs.size [Value.str z0 (T + 1), .str z1 (T + 1 + 1), .str z2 (T + 1 + 1 + 1), .str z3 (T + 1 + 1 + 1 + 1)].toArray := ⟨_, pin, rfl, 0, rfl⟩
  have hlt : i.toNat < 4 := (List.getElem?_eq_some_iff.mp hz).1
  obtain ⟨d, hd⟩ : ∃ d, [Value.str z0 (T + 1), .str z1 (T + 1 + 1), .str z2 (T + 1 + 1 + 1), .str z3 (T + 1 + 1 + 1 + 1)].toArray[i.toNat]? = some (.str z (T + 1 + d)) := by
    have h4 : i.toNat = 0 ∨ i.toNat = 1 ∨ i.toNat = 2 ∨ i.toNat = 3 := by omega
    rcases h4 with h4 | h4 | h4 | h4 <;> rw [h4] at hz ⊢ <;> cases hz
    · exact ⟨0, rfl⟩
    · exact ⟨1, rfl⟩
    · exact ⟨2, rfl⟩
    · exact ⟨3, rfl⟩
  refine item_listR isl hi0 (by omega) hd ?_ (hx _ _)
  refine Calls.spliced_nil ?_
  have bz := hb z (List.mem_of_getElem? hz)
  exact PySem.SC.replace (show T ≠ 0 by omega) (show T + 1 + d ≠ 0 by omega) (show T ≠ T + 1 + d by omega) bz.2 bz.1 fun t' k => ⟨.str (PySem.Txt.replace x y z), H4, I4.unpinned.tok k, ⟨t', rfl⟩, q4⟩
/-- text * int -/
def rRepS : R2 := fun x y H Q => ∃ z n, x = .str z ∧ y = .int n ∧ 2 ≤ n ∧ n ≤ 1000 ∧ 1 ≤ z.length ∧ z.length ≤ 100 ∧ Q (.str (repS z n.toNat)) H
theorem op_repS : OpR X (binaryOp .Mult) rRepS := by
  intro pins s σ H x y v u Q I rx ry h
  obtain ⟨z, n, rfl, rfl, h1, h2, h3, h4, q⟩ := h
  obtain ⟨t, rfl⟩ := rx
  obtain ⟨t2, rfl⟩ := ry
  have hm : z.length * n.toNat ≤ 100 * 1000 := Nat.mul_le_mul h4 (by omega)
  have sl : sizeLine = 16777216 := by first | exact sizeLine_eq | rfl
  refine PySem.P.mul_str ?_ (fun _ _ => ?_) (fun _ _ => ?_) ?_
  · rw [decide_eq_false (show ¬ n < -(2 ^ 63 : Int) by omega), decide_eq_false (show ¬ n ≥ 2 ^ 63 by omega)]
    rfl
  · have : (100 : Int) ≤ (2 ^ 63 - 1) / n := Int.le_ediv_of_mul_le (by omega) (by omega)
    omega
  · exact decide_eq_false (show ¬ z.length * n.toNat > sizeLine by omega)
  · rw [if_neg (by omega), if_neg (by
      rw [Bool.or_eq_true, beq_iff_eq, beq_iff_eq]
      omega)]
    refine ⟨?_, .str (repS z n.toNat), H, I.tok _, ⟨_, rfl⟩, q⟩
    show (repS z n.toNat).length ≤ sizeLine
    have e : (repS z n.toNat).length = n.toNat * z.length := by
      rw [TL.len_tl, repS_tl, TL.len_tl]
      generalize n.toNat = m
      induction m with
      | zero => simp
      | succ m ih => rw [List.replicate_succ, List.flatten_cons, List.length_append, ih, Nat.succ_mul, Nat.add_comm]
    rw [e, Nat.mul_comm]
    omega
end
section
variable {K : PySem.W.Frag} {σ : L2.St} {H : Hp} {ta tb te tl : TE} {D : Ends} {tu tz : TS}
theorem rv_repS {z : PySem.Str} {n : Int} (h1 : 2 ≤ n ∧ n ≤ 1000) (h2 : 1 ≤ z.length ∧ z.length ≤ 100) : RV rRepS (.str z) (.int n) H (.str (repS z n.toNat)) := fun H1 e1 Q q => ⟨z, n, rfl, rfl, h1.1, h1.2, h2.1, h2.2, q H1 (Ex.refl H1)⟩
theorem ev_replIx {x y z : PySem.Str} {zs : List PySem.Str} {i : Int} (h : Ev ta σ H (.str x)) (hb : ∀ z ∈ zs, x.length + (x.length + 1) * z.length ≤ 16777216 ∧ (y == z) = false) (hi : Ev tb σ H (.int i)) (h0 : 0 ≤ i) (hz : zs[i.toNat]? = some z) : Ev (tReplIx ta tb y zs) σ H (.str (PySem.Txt.replace x y z)) := fun H1 e Q q =>
  h H1 e _ fun H2 e2 => ⟨x, rfl, hb, hi H2 (e.trans e2) _ fun H3 e3 => ⟨i, z, rfl, h0, hz, q H3 (e2.trans e3)⟩⟩
theorem ev_replC {x y z : PySem.Str} (h : Ev ta σ H (.str x)) (hb : x.length + (x.length + 1) * z.length ≤ 16777216) : Ev (CwR.tReplC ta y z) σ H (.str (PySem.Txt.replace x y z)) := fun H1 e Q q => h H1 e _ fun H2 e2 => ⟨x, rfl, hb, q H2 e2⟩
/-- xs[i] = e -/
theorem s_setV {l : Addr} {xs : List V} {i : Int} {v : V} (hl : H l = some (.lst xs)) (h : Ev te σ H v) (ho : Ev ta σ H (.ref l)) (hi : Ev tb σ H (.int i)) (h0 : 0 ≤ i) (h1 : i < xs.length) (k : ∀ H1, Ex H H1 → D.nx σ (upd H1 l (.lst (xs.set i.toNat v)))) :
    tAsg te (gSub ta tb rSetL) D σ H := h H (Ex.refl H) _ fun H1 e1 => ho H1 e1 _ fun H2 e2 => hi H2 (e1.trans e2) _ fun H3 e3 =>
  ⟨l, _, i, i.toNat, rfl, rfl, ((e1.trans e2).trans e3) l _ hl, ixN_int h0 h1, k H3 ((e1.trans e2).trans e3)⟩
theorem q_setV {l : Addr} {xs : List V} {i : Int} {v : V} (hl : H l = some (.lst xs)) (h : Ev te σ H v) (ho : Ev ta σ H (.ref l)) (hi : Ev tb σ H (.int i)) (h0 : 0 ≤ i) (h1 : i < xs.length) (k : ∀ H1, Ex H H1 → tz D σ (upd H1 l (.lst (xs.set i.toNat v)))) :
    tSeq (tAsg te (gSub ta tb rSetL)) tz D σ H := s_setV (D := { D with nx := tz D }) hl h ho hi h0 h1 k
/-- an item of a list of texts -/
theorem ev_ixS {ws : List PySem.Str} {i : Int} {w : PySem.Str} (ha : EvD K ta σ H (ds ws)) (hb : Ev tb σ H (.int i)) (h0 : 0 ≤ i) (h : ws[i.toNat]? = some w) : Ev (tOp (rIxL K) ta tb) σ H (.str w) :=
  ev_ofS (ed_ix (ds := ws.map PyData.str) ha hb h0 (by rw [List.getElem?_map, h]; rfl))
/-- [e for w in ws], ws a list of texts -/
theorem el_ls {a : Addr} {ws : List PySem.Str} {j : Nat} {vs : List Nat} (v : PySem.Str → V) (h : Ev tl σ H (.ref a)) (ha : H a = some (.lst (ws.map V.str))) (hz : ws.length ≤ 40000) (hw : ∀ x, wipe ((wipe σ vs).set j (some x)) vs = wipe σ vs)
    (he : ∀ (x : PySem.Str) H1, Ex H H1 → x ∈ ws → Ev te ((wipe σ vs).set j (some (.str x))) H1 (v x)) : EvL (tLc (iList K tl) (gName j) tYes te vs) σ H (ws.map v) := by
  have e4 : given (ws.map V.str).length (fun _ => true) (fun i => v (ws.getD i "")) = ws.map v := by
    rw [given_all, List.length_map]
    refine List.ext_getElem (by simp) fun i h1 h2 => ?_
    have h5 : i < ws.length := by simpa using h2
    rw [List.getElem_map, List.getElem_map, List.getElem_range, List.getD_eq_getElem?_getD, List.getElem?_eq_getElem h5]
    rfl
  rw [← e4]
  refine el_lcL (fun _ => true) (fun i => v (ws.getD i "")) h (sq_of ha) (by rw [List.length_map]; exact hz) hw (fun _ _ _ _ _ => et_yes) (fun i x H1 e1 hx _ => ?_)
  rw [List.getElem?_map] at hx
  obtain ⟨w, hw1, rfl⟩ : ∃ w, ws[i]? = some w ∧ x = V.str w := by
    cases h : ws[i]? with
    | none =>
      rw [h] at hx
      cases hx
    | some w =>
      rw [h] at hx
      exact ⟨w, rfl, (Option.some.inj hx).symm⟩
  have e5 : ws.getD i "" = w := by rw [List.getD_eq_getElem?_getD, hw1]; rfl
  rw [e5]
  exact he w H1 e1 (List.mem_of_getElem? hw1)
end
/-! ### what number_of tells or refuses -/
def spNum (K : PySem.W.Frag) (er : Nat → Addr) : Sp := fun vs H Q E => ∃ w, DpAll K H vs [.str w] ∧ ((∃ n, IsW w n ∧ ∀ H', Ex H H' → Q (.int n) H') ∨ (BadW w ∧ ∀ H', Ex H H' → E (.ref (er 6)) none H'))
/-- a spoiled text -/
def sp_spoiled (K : PySem.W.Frag) : Sp := fun vs H Q _ => ∃ p row way cell, DpAll K H vs [.int p, dl row, .int way, .int cell] ∧ 2 ≤ p ∧ p ≤ 97 ∧ Nums p row ∧ row.length ≤ 24 ∧ 0 ≤ way ∧ way < 6 ∧ 0 ≤ cell ∧ ∀ z H', Bad z → Ex H H' → Q (.str z) H'
/-- tried: read, or refused -/
def F__law_tried17 (xs : List PyData) (v : V) : Prop := ∃ z, xs = [.str z] ∧ ((Bad z ∧ v = .str "note") ∨ ∃ p row, z = noteOf p row ∧ p ∈ primes ∧ Nums p row ∧ row.length ≤ 30 ∧ v = .str "read")
end RF
namespace RF
open PySem PySem.Spec PyProof.Rows L2 Evl
section
variable {K : PySem.W.Frag} {σ : L2.St} {H : Hp} {ta : TA} {tl : TE} {er : Nat → Addr} {W : WX} {D : Ends} {tz : TS} {w : PySem.Str}
theorem q_asgN {i : Nat} (h : EvDA K ta σ H [.str w]) (hw : BadW w) (k : ∀ H1, Ex H H1 → W (.ref (er 6)) none σ H1) : tSeq (tAsg (tCallS (spNum K er) (WE W) ta) (gName i)) tz D σ H :=
  h H (Ex.refl H) _ fun vs H1 e hv => ⟨w, hv, Or.inr ⟨hw, fun H2 e2 => k H2 (e.trans e2)⟩⟩
/-- [number_of(w) for w in ws], the j-th refused -/
theorem lcN {E0 : XK} {i j : Nat} {vs : List Nat} {ws : List PySem.Str} {v : PySem.Str} (hl : EvL tl σ H (ws.map V.str)) (hz : ws.length ≤ 1000) (hw : ∀ x, wipe ((wipe σ vs).set i (some x)) vs = wipe σ vs)
    (ha : ∀ (u : PySem.Str) H1, EvDA K ta ((wipe σ vs).set i (some (.str u))) H1 [.str u]) (hj : j < ws.length) (hg : ∀ m : Nat, m < j → ∃ u n, ws[m]? = some u ∧ IsW u n) (hv : ws[j]? = some v) (hb : BadW v)
    (q : ∀ H1, Ex H H1 → E0 (.ref (er 6)) none H1) : tLcX (iList K tl) i (tCallS (spNum K er) (fun _ => E0) ta) vs σ H :=
  hl H (Ex.refl H) _ fun b H1 hb1 e1 h1 => by
    refine ⟨b, rfl, ⟨_, sq_of h1⟩, hw, fun Dn hD => ⟨j, fun k H2 => k ≤ j ∧ Ex H1 H2 ∧ ∃ acc, H2 Dn = some (.lst acc) ∧ acc.length = k, ⟨Nat.zero_le _, Ex.new hD, [], upd_same, rfl⟩, fun k H2 hk => ?_⟩⟩
    obtain ⟨hk, e2, acc, hA, hlen⟩ := hk
    have hq : SqL K H2 b (ws.map V.str) := ex_l e2 (sq_of h1)
    have get : ∀ {m : Nat} {u : PySem.Str}, ws[m]? = some u → (ws.map V.str)[m]? = some (.str u) := fun {m u} e => by
      rw [List.getElem?_map, e]
      rfl
    have at_k : ∃ u, ws[k]? = some u ∧ ((k < j ∧ ∃ n, IsW u n) ∨ (k = j ∧ BadW u)) := by
      by_cases hkj : k < j
      · obtain ⟨u, n, x1, x2⟩ := hg k hkj
        exact ⟨u, x1, Or.inl ⟨hkj, n, x2⟩⟩
      · have e : k = j := by omega
        exact ⟨v, e ▸ hv, Or.inr ⟨e, hb⟩⟩
    obtain ⟨u, hu, hcase⟩ := at_k
    refine ⟨hk, ⟨_, _, hq, get hu⟩, fun x H3 hy => ?_⟩
    obtain ⟨e3, hy⟩ := hy
    subst e3
    have ex := (hy _ hq).symm.trans (get hu)
    cases ex
    refine ha u _ _ (Ex.refl _) _ fun us H4 e4 hus => ⟨u, hus, ?_⟩
    rcases hcase with ⟨hkj, n, hn⟩ | ⟨rfl, hbad⟩
    · refine Or.inl ⟨n, hn, fun H5 e5 => ⟨hkj, acc, e5 _ _ (e4 _ _ hA), ?_, by omega, Ex.mut ((e2.trans e4).trans e5) hD, acc ++ [.int n], upd_same, by rw [List.length_append, hlen]; rfl⟩⟩
      have : acc.length + 1 ≤ sizeLine := sz_of (by omega)
      omega
    · exact Or.inr ⟨hbad, fun H5 e5 => q H5 (e1.trans ((e2.trans e4).trans e5))⟩
end
end RF
namespace RF
open PySem PySem.Spec PyProof.Rows L2 Evl
theorem join_len {ws : List PySem.Str} (h : ∀ v ∈ ws, v.length ≤ 4) : (PySem.Txt.join "" (ws.map fun v => (" " : PySem.Str) ++ v)).length ≤ 1 + 5 * ws.length := by
  have a := noteS_len "" ws 4 h
  rw [← glue_note] at a
  unfold glue at a
  rw [TL.len_tl, TL.tl_append, List.length_append, ← TL.len_tl] at a
  have z : ("" : PySem.Str).length = 0 := by decide
  rw [z] at a
  rw [TL.len_tl]
  omega
section
variable {K : PySem.W.Frag} {σ : L2.St} {H : Hp} {tl te tj : TE}
theorem ev_joinG {a : Addr} {ws : List PySem.Str} {j : Nat} {vs : List Nat} (hws : ∀ v ∈ ws, v.length ≤ 4) (hlen : ws.length ≤ 100) (h0 : Ev tj σ H (.str "")) (h : Ev tl σ H (.ref a)) (ha : H a = some (.lst (ws.map V.str))) (hw : ∀ x, wipe ((wipe σ vs).set j (some x)) vs = wipe σ vs)
    (he : ∀ (x : PySem.Str) H1, x.length ≤ 4 → Ev te ((wipe σ vs).set j (some (.str x))) H1 (.str ((" " : PySem.Str) ++ x))) : Ev (tM1 (rJoinK K) tj (tLc (iList K tl) (gName j) tYes te vs)) σ H (.str (PySem.Txt.join "" (ws.map fun v => (" " : PySem.Str) ++ v))) := by
  refine ev_joinS h0 (by
    rw [List.map_map]
    exact el_ls (fun x => V.str ((" " : PySem.Str) ++ x)) h ha (by omega) hw fun x H1 e1 hx => he x H1 (hws x hx)) ?_
  have s : ∀ us : List PySem.Str, (∀ v ∈ us, v.length ≤ 4) → ((us.map fun v => (" " : PySem.Str) ++ v).map (·.length)).sum ≤ 5 * us.length := by
    intro us
    induction us with
    | nil => exact fun _ => Nat.le_refl 0
    | cons u us ih =>
      intro hu
      have h1 := ih fun v hv => hu v (List.mem_cons_of_mem _ hv)
      have h2 := hu u (List.mem_cons_self ..)
      have h3 : ((" " : PySem.Str) ++ u).length = 1 + u.length := by
        rw [TL.len_tl, TL.tl_append, List.length_append, tl_blank, ← TL.len_tl]
        rfl
      rw [List.map_cons, List.map_cons, List.sum_cons, h3, List.length_cons]
      omega
  have z : ("" : PySem.Str).length = 0 := by decide
  have := s ws hws
  rw [z, Nat.mul_zero, Nat.add_zero]
  omega
end
end RF
namespace RF
open PySem PySem.Spec PyProof.Rows L2 Evl
/-! ### the same, as structures (a definition that is a ∀ costs the elaborator too much) -/
structure UE (X : Cx) (e : Expr) (t : TE) : Prop where
  run : PET X e t
structure UA (X : Cx) (es : List Expr) (t : TA) : Prop where
  run : PAT X es t
structure US (X : Cx) (st : Stmt) (t : TS) : Prop where
  run : PST X st t
structure USs (X : Cx) (st : List Stmt) (t : TS) : Prop where
  run : PSsT X st t
section
variable {X : Cx} {e : Expr} {es : List Expr} {st : Stmt} {rest body : List Stmt} {te to ti : TE} {ta : TA} {t u : TS}
theorem ue_of (h : PE X e te) : UE X e te := ⟨fun pins s σ H Q _ I q => h.run pins s σ H Q I q⟩
theorem us_of (h : PS X st t) : US X st t := ⟨PST.of h⟩
theorem uss_of (h : PSs X rest t) : USs X rest t := ⟨PSsT.of h⟩
theorem uss_cons (a : US X st t) (b : USs X rest u) : USs X (st :: rest) (tSeq t u) := ⟨psst_cons a.run b.run⟩
theorem uss_one (a : US X st t) : USs X [st] t := ⟨psst_cons a.run (PSsT.of pss_nil)⟩
theorem ua_nil : UA X [] tNil := ⟨pat_nil⟩
theorem ua_cons (a : UE X e te) (b : UA X es ta) (hs : starEach (e :: es) X.env = (false, eval e X.env) :: starEach es X.env := by rfl) : UA X (e :: es) (tCons te ta) := ⟨pat_cons a.run b.run hs⟩
theorem ue_lst {pos : Pos} (h : UA X es ta) : UE X (.List es pos) (tLst ta) := ⟨pet_lst h.run⟩
theorem us_ret {pos : Pos} (h : UE X e te) : US X (.Return (some e) pos) (tRet te) := ⟨CwR.pst_ret h.run⟩
theorem us_if {c : Expr} {a b : List Stmt} {tc : TT} {pos : Pos} (hc : PT X c tc) (ha : USs X a t) (hb : USs X b u) : US X (.If c a b pos) (tIfS tc t u) := ⟨CwR.pst_if hc ha.run hb.run⟩
theorem us_set {i : Nat} {x : PySem.Str} {pos' pos : Pos} (hN : X.N.Nodup) (hi : X.N[i]? = some x) (hx : Loc X.env.scope x) (he : UE X e te) (hs : swapsWith e (some (.Name x pos')) pos.line X.env = pure false := by rfl)
    (hf : X.fn x = true ∨ X.env.scope.names.lookup x = some .local := by first | exact .inl rfl | exact .inr rfl | assumption) : US X (.Assign [.Name x pos'] e pos) (tAsg te (gName i)) := ⟨pst_set hN hi hx he.run hs hf⟩
theorem pss_ifU {op : CmpOp} {r : R2} {a : Expr} {ta : TE} {k : Int} {j : Nat} {cp pos pos2 : Pos} (ho : OpR X (compareOp op) r) (ha : PE X a ta) (hm : behindInMarks op (.Constant (.int k) j cp) = false) (hb : PSs X body t) (hr : USs X rest u) :
    PSs X (.If (.Compare a [op] [.Constant (.int k) j cp] pos) body [] pos2 :: rest) (tSeq (tIfS (tTest (tOp r ta (tC (.int k)))) t tNext) u) := pss_ifT ho ha hm (PSsT.of hb) hr.run
theorem ue_replC {o : Expr} {y z : PySem.Str} {j k : Nat} {c0 c1 apos pos : Pos} (ho : PE X o to) (hyz : (y == z) = false := by decide)
    (hst : starEach [.Constant (.str y) j c0, .Constant (.str z) k c1] X.env = [(false, eval (.Constant (.str y) j c0) X.env), (false, eval (.Constant (.str z) k c1) X.env)] := by rfl)
    (hbase : attributeBase o "replace" X.env (eval o X.env) = eval o X.env := by rfl) (hline : (apos.endLine == pos.line) = true := by rfl) :
    UE X (.Call (.Attribute o "replace" apos) [.Constant (.str y) j c0, .Constant (.str z) k c1] [] pos) (CwR.tReplC to y z) := ⟨CwR.pet_replC ho hyz hst hbase hline⟩
theorem ue_replIx {o idx : Expr} {y z0 z1 z2 z3 : PySem.Str} {j j0 j1 j2 j3 : Nat} {apos pos c c0 c1 c2 c3 lp sp : Pos} (ho : PE X o to) (hi : PE X idx ti) (hx : PlainIx idx)
    (hst : starEach [.Constant (.str y) j c, .Subscript (.List [.Constant (.str z0) j0 c0, .Constant (.str z1) j1 c1, .Constant (.str z2) j2 c2, .Constant (.str z3) j3 c3] lp) idx sp] X.env =
      [(false, eval (.Constant (.str y) j c) X.env), (false, eval (.Subscript (.List [.Constant (.str z0) j0 c0, .Constant (.str z1) j1 c1, .Constant (.str z2) j2 c2, .Constant (.str z3) j3 c3] lp) idx sp) X.env)] := by rfl)
    (hbase : attributeBase o "replace" X.env (eval o X.env) = eval o X.env := by rfl) (hline : (apos.endLine == pos.line) = true := by rfl) :
    UE X (.Call (.Attribute o "replace" apos) [.Constant (.str y) j c, .Subscript (.List [.Constant (.str z0) j0 c0, .Constant (.str z1) j1 c1, .Constant (.str z2) j2 c2, .Constant (.str z3) j3 c3] lp) idx sp] [] pos) (tReplIx to ti y [z0, z1, z2, z3]) :=
  ⟨pet_replIx ho hi hx hst hbase hline⟩
end
end RF

namespace RF
open PySem PySem.Spec PyProof.Rows L2 Evl

/-! ### the walk's small steps: walk_at with words of our own -/
local macro_rules | `(tactic| walk_at "ex") => `(tactic| first | exact Ex.refl _ | assumption | ((refine Ex.trans ?_ (by assumption)); walk_at "ex"))
local macro_rules | `(tactic| walk_at "at") => `(tactic| first | assumption | exact upd_same | ((refine ex_at (by assumption) ?_); walk_at "at"))
local macro_rules | `(tactic| walk_at "dp") => `(tactic| first | assumption | ((refine dpx ?_ (by assumption)); walk_at "ex") | ((with_reducible apply dp_lst); walk_at "at"))
local macro_rules | `(tactic| walk_at "sd") => `(tactic| first | with_reducible assumption | omega | assumption | decide | (constructor <;> omega) | exact Or.inl ⟨by omega, by omega⟩ | exact Or.inr ⟨by omega, by omega⟩ | ((simp only [List.length_take, List.length_drop, List.length_append, List.length_map, List.length_range, List.length_cons, List.length_nil, List.length_set, List.length_reverse]); omega))
local macro_rules | `(tactic| walk_at "cv") => `(tactic| fail "cv")
local macro_rules | `(tactic| walk_at "kit") => `(tactic| first | exact (show kitB _ _ = some true by decide +kernel) | exact (show kitB _ _ = some false by decide +kernel))
local macro_rules | `(tactic| walk_at "sh") => `(tactic| first | exact shaped_dl _ | exact shaped_2 _ _)
local macro_rules | `(tactic| walk_at "rv") => `(tactic| first
  | with_reducible exact rv_I0
  | ((with_reducible apply rv_I); walk_at "sd")
  | exact rv_eqI
  | exact rv_neI
  | exact rv_eqB
  | exact rv_neB
  | exact rv_eqS
  | exact rv_neS
  | with_reducible exact rv_notInS
  | with_reducible exact rv_isN
  | ((with_reducible apply rv_addS); walk_at "sd"))
local macro_rules | `(tactic| walk_at "ea") => `(tactic| first
  | with_reducible exact ea_nil
  | ((with_reducible apply ea_cons); (walk_at "ev"); (walk_at "ea")))
local macro_rules | `(tactic| walk_at "eo") => `(tactic| first
  | with_reducible exact eo_none
  | ((with_reducible apply eo_some); (walk_at "ev")))
local macro_rules | `(tactic| walk_at "ed") => `(tactic| first
  | ((with_reducible apply evd_i); (walk_at "ev"))
  | ((with_reducible apply evd_v); (walk_at "ev"); (walk_at "dp"))
  | ((with_reducible apply evd_l); (walk_at "el"))
  | ((with_reducible apply ed_ix); (walk_at "ed"); (walk_at "ev"); (walk_at "sd"); (exact rfl))
  | ((with_reducible apply ed_tix); (walk_at "ed"); (walk_at "ev"); (walk_at "sd"); (exact rfl))
  | ((with_reducible apply ed_lst); (walk_at "eda"); (walk_at "sd"))
  | ((with_reducible apply evd_b); (walk_at "ev"))
  | ((with_reducible apply evd_s); (walk_at "ev")))
local macro_rules | `(tactic| walk_at "eda") => `(tactic| first
  | with_reducible exact evd_nil
  | ((with_reducible apply evd_cons); (walk_at "ed"); (walk_at "eda")))
local macro_rules | `(tactic| walk_at "evx") => `(tactic| first
  | ((with_reducible apply evx_v); (walk_at "ev"); (walk_at "at"))
  | ((with_reducible apply evx_l); (walk_at "el")))
local macro_rules | `(tactic| walk_at "ev") => `(tactic| first
  | with_reducible exact ev_c
  | ((with_reducible apply ev_var); rfl)
  | ((with_reducible apply ev_ix); (walk_at "ed"); (walk_at "ev"); (walk_at "sd"); (walk_at "sd"))
  | ((with_reducible apply ev_ixl); (walk_at "ed"); (walk_at "ev"); (walk_at "sd"))
  | ((with_reducible apply ev_op); (walk_at "ev"); (walk_at "ev"); (walk_at "rv"))
  | ((with_reducible apply ev_un); (walk_at "ev"); (exact ru_neg))
  | ((with_reducible apply ev_lenD); (walk_at "ed"))
  | ((with_reducible apply ev_lenS); (walk_at "ev"); (walk_at "sd"))
  | ((with_reducible apply ev_strI); (walk_at "ev"); (walk_at "sd"))
  | ((with_reducible apply ev_cd); (walk_at "eda"); (walk_at "cv"))
  | ((with_reducible apply ev_sumD); (walk_at "ed"))
  | ((with_reducible apply ev_allN); (walk_at "el"))
  | ((with_reducible apply ev_max2); (walk_at "ev"); (walk_at "ev"))
  | ((with_reducible apply ev_min2); (walk_at "ev"); (walk_at "ev"))
  | ((with_reducible apply ev_intb); (walk_at "ev"))
  | ((with_reducible apply ev_chainI); (walk_at "ev"); (walk_at "ev"); (walk_at "ev"))
  | ((with_reducible apply ev_notV); (walk_at "ev"))
  | ((with_reducible apply ev_isiI); (walk_at "ev"); (walk_at "kit"))
  | ((with_reducible apply ev_isiB); (walk_at "ev"); (walk_at "kit"))
  | ((with_reducible apply ev_isiS); (walk_at "ev"); (walk_at "kit"))
  | ((with_reducible apply ev_isiL); (walk_at "ed"); (walk_at "kit"))
  | ((with_reducible apply ev_andV); (walk_at "ev"); (intro _; walk_at "ev"))
  | ((with_reducible apply ev_orV); (walk_at "ev"); (intro _; walk_at "ev"))
  | ((with_reducible apply ev_neD); (walk_at "ed"); (walk_at "ed"); (walk_at "sh"); (walk_at "sh"))
  | ((with_reducible apply ev_eqD); (walk_at "ed"); (walk_at "ed"); (walk_at "sh"); (walk_at "sh")))
local macro_rules | `(tactic| walk_at "et") => `(tactic| first
  | ((with_reducible apply et_test); (walk_at "ev"))
  | ((with_reducible apply et_B); (walk_at "ev"))
  | ((with_reducible apply et_and); (walk_at "et"); (intro _; walk_at "et"))
  | ((with_reducible apply et_or); (walk_at "et"); (intro _; walk_at "et"))
  | ((with_reducible apply et_not); (walk_at "et")))
local macro_rules | `(tactic| walk_at "el") => `(tactic| first
  | ((with_reducible apply el_listD); (walk_at "ed"))
  | ((with_reducible apply el_cd); (walk_at "eda"); (walk_at "cv"))
  | ((with_reducible apply el_to); (walk_at "ed"); (walk_at "ev"); (walk_at "sd"); (walk_at "sd"))
  | ((with_reducible apply el_from); (walk_at "ed"); (walk_at "ev"); (walk_at "sd"); (walk_at "sd"))
  | ((with_reducible apply el_init); (walk_at "ed"); (walk_at "ev"); (walk_at "sd"))
  | ((with_reducible apply el_revL); (walk_at "ed"))
  | ((with_reducible apply el_slD); (walk_at "ed"); (walk_at "eo"); (walk_at "eo"))
  | ((with_reducible apply el_cat); (walk_at "evx"); (walk_at "evx"); (walk_at "sd"))
  | with_reducible exact el_nil
  | ((with_reducible apply el_one); (walk_at "ev"))
  | ((with_reducible apply el_r1); (walk_at "ea"); (walk_at "sd"); (intro _; rfl); (intro i H1 e1 hi; walk_at "ev"))
  | ((with_reducible apply el_li); (walk_at "ed"); (walk_at "sd"); (intro _; rfl); (intro x H1 e1 hi; walk_at "ev")))

def topS (i : Nat) : Stmt := PySem.Challenge.pw_rulefound_k17_unread.main.body.getD i (.Pass ⟨0, 0, 0, 0⟩)
abbrev s__law_prime : Stmt := topS 22
abbrev N__law_prime : List PySem.Str := ["cell", "primes"]
theorem sc__law_prime : FnScope N__law_prime ["cell"] (defScope s__law_prime) := ⟨rfl, rfl, rfl, by decide +kernel, rfl, by decide +kernel, by decide +kernel⟩
abbrev s__law_next : Stmt := topS 21
abbrev N__law_next : List PySem.Str := ["seed"]
theorem sc__law_next : FnScope N__law_next ["seed"] (defScope s__law_next) := ⟨rfl, rfl, rfl, by decide +kernel, rfl, by decide +kernel, by decide +kernel⟩
abbrev s__law_numbers : Stmt := topS 23
abbrev N__law_numbers : List PySem.Str := ["p", "many", "cell", "found", "k"]
theorem sc__law_numbers : FnScope N__law_numbers ["p", "many", "cell"] (defScope s__law_numbers) := ⟨rfl, rfl, rfl, by decide +kernel, rfl, by decide +kernel, by decide +kernel⟩
abbrev s__law_cell_at : Stmt := topS 20
abbrev N__law_cell_at : List PySem.Str := ["script", "k"]
theorem sc__law_cell_at : FnScope N__law_cell_at ["script", "k"] (defScope s__law_cell_at) := ⟨rfl, rfl, rfl, by decide +kernel, rfl, by decide +kernel, by decide +kernel⟩
abbrev s__law_tells : Stmt := topS 24
abbrev N__law_tells : List PySem.Str := ["p", "row", "rule", "total", "k"]
theorem sc__law_tells : FnScope N__law_tells ["p", "row", "rule"] (defScope s__law_tells) := ⟨rfl, rfl, rfl, by decide +kernel, rfl, by decide +kernel, by decide +kernel⟩
abbrev s__law_on : Stmt := topS 26
abbrev N__law_on : List PySem.Str := ["p", "row", "rule", "many", "found", "k"]
theorem sc__law_on : FnScope N__law_on ["p", "row", "rule", "many"] (defScope s__law_on) := ⟨rfl, rfl, rfl, by decide +kernel, rfl, by decide +kernel, by decide +kernel⟩
abbrev s__law_row : Stmt := topS 27
abbrev N__law_row : List PySem.Str := ["script", "p", "most", "many", "row", "way", "long", "at", "k"]
theorem sc__law_row : FnScope N__law_row ["script", "p", "most"] (defScope s__law_row) := ⟨rfl, rfl, rfl, by decide +kernel, rfl, by decide +kernel, by decide +kernel⟩
abbrev s__law_text : Stmt := topS 28
abbrev N__law_text : List PySem.Str := ["p", "row", "text", "number"]
theorem sc__law_text : FnScope N__law_text ["p", "row"] (defScope s__law_text) := ⟨rfl, rfl, rfl, by decide +kernel, rfl, by decide +kernel, by decide +kernel⟩
abbrev s__law_spoiled : Stmt := topS 31
abbrev N__law_spoiled : List PySem.Str := ["p", "row", "way", "cell", "words", "text", "at", "some", "number", "word"]
theorem sc__law_spoiled : FnScope N__law_spoiled ["p", "row", "way", "cell"] (defScope s__law_spoiled) := ⟨rfl, rfl, rfl, by decide +kernel, rfl, by decide +kernel, by decide +kernel⟩
abbrev s_number_of : Stmt := topS 17
abbrev N_number_of : List PySem.Str := ["word", "sign"]
theorem sc_number_of : FnScope N_number_of ["word"] (defScope s_number_of) := ⟨rfl, rfl, rfl, by decide +kernel, rfl, by decide +kernel, by decide +kernel⟩
abbrev s_is_prime : Stmt := topS 11
abbrev N_is_prime : List PySem.Str := ["p", "k"]
theorem sc_is_prime : FnScope N_is_prime ["p"] (defScope s_is_prime) := ⟨rfl, rfl, rfl, by decide +kernel, rfl, by decide +kernel, by decide +kernel⟩
abbrev s_ask_prime : Stmt := topS 12
abbrev N_ask_prime : List PySem.Str := ["p"]
theorem sc_ask_prime : FnScope N_ask_prime ["p"] (defScope s_ask_prime) := ⟨rfl, rfl, rfl, by decide +kernel, rfl, by decide +kernel, by decide +kernel⟩
abbrev s_are_numbers : Stmt := topS 13
abbrev N_are_numbers : List PySem.Str := ["p", "some", "number"]
theorem sc_are_numbers : FnScope N_are_numbers ["p", "some"] (defScope s_are_numbers) := ⟨rfl, rfl, rfl, by decide +kernel, rfl, by decide +kernel, by decide +kernel⟩
abbrev s_ask_row : Stmt := topS 14
abbrev N_ask_row : List PySem.Str := ["p", "row"]
theorem sc_ask_row : FnScope N_ask_row ["p", "row"] (defScope s_ask_row) := ⟨rfl, rfl, rfl, by decide +kernel, rfl, by decide +kernel, by decide +kernel⟩
abbrev s_read : Stmt := topS 18
abbrev N_read : List PySem.Str := ["text", "parts", "p", "row", "word"]
theorem sc_read : FnScope N_read ["text"] (defScope s_read) := ⟨rfl, rfl, rfl, by decide +kernel, rfl, by decide +kernel, by decide +kernel⟩
abbrev s__law_kind : Stmt := topS 29
abbrev N__law_kind : List PySem.Str := ["e", "kinds"]
theorem sc__law_kind : FnScope N__law_kind ["e"] (defScope s__law_kind) := ⟨rfl, rfl, rfl, by decide +kernel, rfl, by decide +kernel, by decide +kernel⟩
abbrev s__law_tried : Stmt := topS 30
abbrev N__law_tried : List PySem.Str := ["text", "e"]
theorem sc__law_tried : FnScope N__law_tried ["text"] (defScope s__law_tried) := ⟨rfl, rfl, rfl, by decide +kernel, rfl, by decide +kernel, by decide +kernel⟩
abbrev s_law : Stmt := topS 32
abbrev N_law : List PySem.Str := ["script", "p", "row", "bad"]
theorem sc_law : FnScope N_law ["script"] (defScope s_law) := ⟨rfl, rfl, rfl, by decide +kernel, rfl, by decide +kernel, by decide +kernel⟩
structure Txt (K : PySem.W.Frag) (mg : PySem.Str → Option Value) (er : Nat → Addr) : Prop where
  err : ErrTxt K mg er
  d__law_prime : DefAt K mg "_law_prime" s__law_prime ["cell"]
  d__law_next : DefAt K mg "_law_next" s__law_next ["seed"]
  d__law_numbers : DefAt K mg "_law_numbers" s__law_numbers ["p", "many", "cell"]
  d__law_cell_at : DefAt K mg "_law_cell_at" s__law_cell_at ["script", "k"]
  d__law_tells : DefAt K mg "_law_tells" s__law_tells ["p", "row", "rule"]
  d__law_on : DefAt K mg "_law_on" s__law_on ["p", "row", "rule", "many"]
  d__law_row : DefAt K mg "_law_row" s__law_row ["script", "p", "most"]
  d__law_text : DefAt K mg "_law_text" s__law_text ["p", "row"]
  d__law_spoiled : DefAt K mg "_law_spoiled" s__law_spoiled ["p", "row", "way", "cell"]
  d_number_of : DefAt K mg "number_of" s_number_of ["word"]
  d_is_prime : DefAt K mg "is_prime" s_is_prime ["p"]
  d_ask_prime : DefAt K mg "ask_prime" s_ask_prime ["p"]
  d_are_numbers : DefAt K mg "are_numbers" s_are_numbers ["p", "some"]
  d_ask_row : DefAt K mg "ask_row" s_ask_row ["p", "row"]
  d_read : DefAt K mg "read" s_read ["text"]
  d__law_kind : DefAt K mg "_law_kind" s__law_kind ["e"]
  d__law_tried : DefAt K mg "_law_tried" s__law_tried ["text"]
  d_law : DefAt K mg "law" s_law ["script"]
  z_all : mg "all" = none
  z_range : mg "range" = none
  z_len : mg "len" = none
  z_int : mg "int" = none
  z_list : mg "list" = none
  z_str : mg "str" = none
  z_isinstance : mg "isinstance" = none
  z_ValueError : mg "ValueError" = none
  z_max : mg "max" = none
  c_MOST : ∃ t, mg "MOST" = some (.int 30 t)
  c_FIGURES : ∃ t, mg "FIGURES" = some (.str "0123456789" t)
section
variable {P : Program} {w : World} {K : PySem.W.Frag} {mg : PySem.Str → Option Value} {base : Heap} {er : Nat → Addr}
def F__law_prime (ds : List PyData) (v : V) : Prop := ∃ (cell : Int), ds = [.int cell] ∧ v = .int (lawPrime cell)
theorem ok__law_prime (T : Txt K mg er) : DefOk P w K mg base CX0 1 "_law_prime" ["cell"] (spF K F__law_prime) := by
  refine T.d__law_prime.ok sc__law_prime (fun vs H Q E h => ?_) (fun f cdv A outer s H vs Q E hr h => ?_)
  · obtain ⟨ds, v, hd, ⟨cell, rfl, _⟩, _⟩ := h
    exact dpAll_len hd
  · obtain ⟨ds, v, hd, ⟨cell, rfl, rfl⟩, q⟩ := h
    obtain ⟨v_cell, rfl, d_cell⟩ := args1 hd
    obtain rfl := dp_int d_cell
    refine ⟨_, (pss_cons (ps_set (i := 1) sc__law_prime.nd rfl (.inl rfl) (pe_lst (pa_cons pe_int (pa_cons pe_int (pa_cons pe_int (pa_cons pe_int (pa_cons pe_int (pa_cons pe_int (pa_cons pe_int (pa_cons pe_int (pa_cons pe_int (pa_cons pe_int (pa_cons pe_int (pa_cons pe_int (pa_cons pe_int pa_nil)))))))))))))))
      (pss_cons (ps_set (i := 1) sc__law_prime.nd rfl (.inl rfl) (pe_op op_cat (pv 1) (pe_lst (pa_cons pe_int (pa_cons pe_int (pa_cons pe_int (pa_cons pe_int (pa_cons pe_int (pa_cons pe_int (pa_cons pe_int (pa_cons pe_int (pa_cons pe_int (pa_cons pe_int (pa_cons pe_int (pa_cons pe_int pa_nil)))))))))))))))
      (pss_cons (ps_if (pt_cmpR op_gt (pe_op op_mod (pv 0) pe_int) pe_int (nomark _))
      (pss_one (ps_ret (pe_ix (ixL (K := K) rfl) (pv 1) (pe_op op_mod (pe_op op_fdiv (pv 0) pe_int) pe_int) (fun _ _ => rfl))))
      pss_nil)
      (pss_one (ps_ret (pe_ix (ixL (K := K) rfl) (pv 1) (pe_op op_mod (pe_op op_fdiv (pv 0) pe_int) pe_int) (fun _ _ => rfl))))))), ?_⟩
    rw [show start N__law_prime [.int cell] = [some (.int cell), none] from rfl]
    refine q_asgL (xs := [.int 2, .int 3, .int 5, .int 7, .int 11, .int 13, .int 17, .int 19, .int 23, .int 29, .int 31, .int 37, .int 41]) (el_lst (by walk_at "ea") (by decide)) fun a H1 ha e1 h1 => ?_
    refine q_asgL (el_catX (evx_v (by walk_at "ev") h1) (evx_l (el_lst (vs := [.int 43, .int 47, .int 53, .int 59, .int 61, .int 67, .int 71, .int 73, .int 79, .int 83, .int 89, .int 97]) (by walk_at "ea") (by decide))) (by decide)) fun b H2 hb e2 h2 => ?_
    have h3 : H2 b = some (.lst (primes.map V.int)) := h2
    have hl : (primes.length : Int) = 25 := rfl
    refine q_when (b := decide (0 < cell % 3)) (by walk_at "et") (fun hb H3 e3 => ?_) (fun hb H3 e3 => ?_)
    · have h := of_decide_eq_true hb
      have e : lawPrime cell = gi primes (cell / 3 % 4) := if_pos h
      rw [e] at q
      exact s_ret (by walk_at "ev") fun H2 e2 => q H2 (by walk_at "ex")
    · have h := of_decide_eq_false hb
      have e : lawPrime cell = gi primes (cell / 3 % 25) := if_neg h
      rw [e] at q
      exact s_ret (by walk_at "ev") fun H2 e2 => q H2 (by walk_at "ex")
local macro_rules | `(tactic| walk_at "cv") => `(tactic| focus ((with_reducible show F__law_prime _ _); exact ⟨_, rfl, rfl⟩))
def F__law_next (ds : List PyData) (v : V) : Prop := ∃ (seed : Int), ds = [.int seed] ∧ v = .int (lawNext seed)
theorem ok__law_next (T : Txt K mg er) : DefOk P w K mg base CX0 1 "_law_next" ["seed"] (spF K F__law_next) := by
  refine T.d__law_next.ok sc__law_next (fun vs H Q E h => ?_) (fun f cdv A outer s H vs Q E hr h => ?_)
  · obtain ⟨ds, v, hd, ⟨seed, rfl, _⟩, _⟩ := h
    exact dpAll_len hd
  · obtain ⟨ds, v, hd, ⟨seed, rfl, rfl⟩, q⟩ := h
    obtain ⟨v_seed, rfl, d_seed⟩ := args1 hd
    obtain rfl := dp_int d_seed
    refine ⟨_, (pss_cons (ps_set (i := 0) sc__law_next.nd rfl (.inl rfl) (pe_op op_mod (pe_op op_add (pv 0) pe_int) pe_int))
      (pss_one (ps_ret (pe_op op_mod (pe_op op_add (pe_op op_add (pe_op op_mul (pv 0) (pv 0)) (pe_op op_mul pe_int (pv 0))) pe_int) pe_int)))), ?_⟩
    rw [show start N__law_next [.int seed] = [some (.int seed)] from rfl]
    refine q_asg (by walk_at "ev") fun H1 e1 => ?_
    exact s_ret (ev_is (by walk_at "ev") (by rfl)) fun H2 e2 => q H2 (by walk_at "ex")
local macro_rules | `(tactic| walk_at "cv") => `(tactic| focus ((with_reducible show F__law_next _ _); exact ⟨_, rfl, rfl⟩))
def F__law_numbers (ds : List PyData) (v : List Int) : Prop := ∃ (p : Int) (many : Int) (cell : Int), ds = [.int p, .int many, .int cell] ∧ (0 < p) ∧ (0 ≤ many) ∧ (many ≤ 1000) ∧ v = lawNums p many cell
theorem ok__law_numbers (T : Txt K mg er) : DefOk P w K mg base CX0 2 "_law_numbers" ["p", "many", "cell"] (spG K F__law_numbers) := by
  refine T.d__law_numbers.ok sc__law_numbers (fun vs H Q E h => ?_) (fun f cdv A outer s H vs Q E hr h => ?_)
  · obtain ⟨ds, v, hd, ⟨p, many, cell, rfl, _⟩, _⟩ := h
    exact dpAll_len hd
  · obtain ⟨ds, v, hd, ⟨p, many, cell, rfl, hp, h0, hm, rfl⟩, q⟩ := h
    obtain ⟨v_p, v_many, v_cell, rfl, d_p, d_many, d_cell⟩ := args3 hd
    obtain rfl := dp_int d_p
    obtain rfl := dp_int d_many
    obtain rfl := dp_int d_cell
    have D__law_next := ok__law_next (P := P) (w := w) (base := base) T
    refine ⟨_, (pss_cons (ps_set (i := 3) sc__law_numbers.nd rfl (.inl rfl) (pe_lst pa_nil))
      (pss_cons (ps_for PassesOwn.never rfl (pi_range1 (by rfl) T.z_range (pa_cons (pv 1) pa_nil)) (pg_name (i := 4) sc__law_numbers.nd rfl (.inl rfl))
      (pss_cons (ps_set (i := 2) sc__law_numbers.nd rfl (.inl rfl) (pe_cd D__law_next (hr.mono (by omega)) (by rfl) (pa_cons (pe_op op_add (pe_op op_mod (pv 2) pe_int) (pe_op op_mul pe_int (pv 4))) pa_nil)))
      (pss_one (ps_expr (pe_bm PySem.F.plainAttrs_list PySem.F.slot_list_append PySem.F.type_list_append mt_append (pv 3) (pa_cons (pe_op op_mod (pe_op op_fdiv (pv 2) pe_int) (pv 0)) pa_nil))))))
      (pss_one (ps_ret (pv 3))))), ?_⟩
    rw [show start N__law_numbers [.int p, .int many, .int cell] = [some (.int p), some (.int many), some (.int cell), none, none] from rfl]
    refine q_asgL el_nil fun f H1 hf e1 h1 => ?_
    refine q_forR1 (n := many) (by walk_at "ea") ⟨h0, by omega⟩ (fun i σ' H' => ∃ y, σ' = [some (.int p), some (.int many), some (.int (numCell cell i)), some (.ref f), y] ∧ Ex H H' ∧ H' f = some (.lst ((lawNumsN p cell i).map V.int)))
      (fun H2 e2 => ⟨_, rfl, by walk_at "ex", by walk_at "at"⟩) (fun i σ' H' hi hP => ?_) (fun σ' H' hP => ?_)
    · obtain ⟨y, rfl, eH, hF⟩ := hP
      refine q_asg (by walk_at "ev") fun H2 e2 => ?_
      refine s_appI (by walk_at "at") (by walk_at "ev") (by walk_at "ev") (by unfold lawNumsN; walk_at "sd") fun H3 e3 => ?_
      refine ⟨_, rfl, Ex.mut (by walk_at "ex") hf, ?_⟩
      rw [lawNumsN_succ]
      exact upd_same
    · obtain ⟨y, rfl, eH, hF⟩ := hP
      exact s_ret (by walk_at "ev") fun H2 e2 => q f H2 hf (by walk_at "ex") (by walk_at "at")
local macro_rules | `(tactic| walk_at "cv") => `(tactic| focus ((with_reducible show F__law_numbers _ _); refine ⟨_, _, _, rfl, ?_, ?_, ?_, rfl⟩ <;> walk_at "sd"))
def F__law_cell_at (ds : List PyData) (v : V) : Prop := ∃ (script : List Int) (k : Int), ds = [dl script, .int k] ∧ (0 ≤ k) ∧ v = .int (cellAt script k)
theorem ok__law_cell_at (T : Txt K mg er) : DefOk P w K mg base CX0 1 "_law_cell_at" ["script", "k"] (spF K F__law_cell_at) := by
  refine T.d__law_cell_at.ok sc__law_cell_at (fun vs H Q E h => ?_) (fun f cdv A outer s H vs Q E hr h => ?_)
  · obtain ⟨ds, v, hd, ⟨script, k, rfl, _⟩, _⟩ := h
    exact dpAll_len hd
  · obtain ⟨ds, v, hd, ⟨script, k, rfl, hk, rfl⟩, q⟩ := h
    obtain ⟨v_script, v_k, rfl, d_script, d_k⟩ := args2 hd
    obtain rfl := dp_int d_k
    refine ⟨_, (pss_cons (ps_if (pt_cmpR op_lt (pv 1) (pe_callB (cl_len (K := K) rfl) (by rfl) T.z_len PySem.boot_len (pa_cons (pv 0) pa_nil)) (nomark _))
      (pss_one (ps_ret (pe_ix (ixL (K := K) rfl) (pv 0) (pv 1) (fun _ _ => rfl))))
      pss_nil)
      (pss_one (ps_ret pe_int))), ?_⟩
    rw [show start N__law_cell_at [v_script, .int k] = [some v_script, some (.int k)] from rfl]
    refine q_when (b := decide (k < (script.length : Int))) (by walk_at "et") (fun hb H1 e1 => ?_) (fun hb H1 e1 => ?_)
    · have h := of_decide_eq_true hb
      have e : cellAt script k = gi script k := if_pos h
      rw [e] at q
      exact s_ret (by walk_at "ev") fun H2 e2 => q H2 (by walk_at "ex")
    · have h := of_decide_eq_false hb
      have e : cellAt script k = 0 := if_neg h
      rw [e] at q
      exact s_ret (by walk_at "ev") fun H2 e2 => q H2 (by walk_at "ex")
local macro_rules | `(tactic| walk_at "cv") => `(tactic| focus ((with_reducible show F__law_cell_at _ _); refine ⟨_, _, rfl, ?_, rfl⟩ <;> walk_at "sd"))
def F__law_tells (ds : List PyData) (v : V) : Prop := ∃ (p : Int) (row : List Int) (rule : List Int), ds = [.int p, dl row, dl rule] ∧ (0 < p) ∧ (p ≤ 97) ∧ (Nums p rule) ∧ (rule.length ≤ row.length) ∧ (row.length ≤ 1000) ∧ v = .int (nextOf p row rule)
theorem ok__law_tells (T : Txt K mg er) : DefOk P w K mg base CX0 1 "_law_tells" ["p", "row", "rule"] (spF K F__law_tells) := by
  refine T.d__law_tells.ok sc__law_tells (fun vs H Q E h => ?_) (fun f cdv A outer s H vs Q E hr h => ?_)
  · obtain ⟨ds, v, hd, ⟨p, row, rule, rfl, _⟩, _⟩ := h
    exact dpAll_len hd
  · obtain ⟨ds, v, hd, ⟨p, row, rule, rfl, hp, hq, hn, hl, hm, rfl⟩, q⟩ := h
    obtain ⟨v_p, v_row, v_rule, rfl, d_p, d_row, d_rule⟩ := args3 hd
    obtain rfl := dp_int d_p
    refine ⟨_, (pss_cons (ps_set (i := 3) sc__law_tells.nd rfl (.inl rfl) pe_int)
      (pss_cons (ps_for PassesOwn.never rfl (pi_range1 (by rfl) T.z_range (pa_cons (pe_callB (cl_len (K := K) rfl) (by rfl) T.z_len PySem.boot_len (pa_cons (pv 2) pa_nil)) pa_nil)) (pg_name (i := 4) sc__law_tells.nd rfl (.inl rfl))
      (pss_one (ps_set (i := 3) sc__law_tells.nd rfl (.inl rfl) (pe_op op_add (pv 3) (pe_op op_mul (pe_ix (ixL (K := K) rfl) (pv 2) (pv 4) (fun _ _ => rfl)) (pe_ix (ixL (K := K) rfl) (pv 1) (pe_op op_sub (pe_op op_sub (pe_callB (cl_len (K := K) rfl) (by rfl) T.z_len PySem.boot_len (pa_cons (pv 1) pa_nil)) pe_int) (pv 4)) (fun _ _ => rfl)))))))
      (pss_one (ps_ret (pe_op op_mod (pv 3) (pv 0)))))), ?_⟩
    rw [show start N__law_tells [.int p, v_row, v_rule] = [some (.int p), some v_row, some v_rule, none, none] from rfl]
    refine q_asg (by walk_at "ev") fun H1 e1 => ?_
    refine q_forR1 (n := (rule.length : Int)) (by walk_at "ea") ⟨by omega, by omega⟩ (fun i σ' H' => ∃ y, σ' = [some (.int p), some v_row, some v_rule, some (.int (dotN row rule i)), y] ∧ Ex H H')
      (fun H2 e2 => ⟨_, rfl, by walk_at "ex"⟩) (fun i σ' H' hi hP => ?_) (fun σ' H' hP => ?_)
    · obtain ⟨y, rfl, eH⟩ := hP
      have hg := gi_nums hn (i := (i : Int)) (by omega) hi
      refine s_asg (by walk_at "ev") fun H2 e2 => ?_
      exact ⟨_, rfl, by walk_at "ex"⟩
    · obtain ⟨y, rfl, eH⟩ := hP
      rw [Int.toNat_natCast]
      exact s_ret (ev_is (by walk_at "ev") (by rfl)) fun H2 e2 => q H2 (by walk_at "ex")
local macro_rules | `(tactic| walk_at "cv") => `(tactic| focus ((with_reducible show F__law_tells _ _); refine ⟨_, _, _, rfl, ?_, ?_, ?_, ?_, ?_, rfl⟩ <;> walk_at "sd"))
def F__law_on (ds : List PyData) (v : List Int) : Prop := ∃ (p : Int) (row : List Int) (rule : List Int) (many : Int), ds = [.int p, dl row, dl rule, .int many] ∧ (0 < p) ∧ (p ≤ 97) ∧ (Nums p rule) ∧ (rule.length ≤ row.length) ∧ (row.length ≤ 500) ∧ (0 ≤ many) ∧ (many ≤ 400) ∧ v = onBy p rule row many.toNat
theorem ok__law_on (T : Txt K mg er) : DefOk P w K mg base CX0 2 "_law_on" ["p", "row", "rule", "many"] (spG K F__law_on) := by
  refine T.d__law_on.ok sc__law_on (fun vs H Q E h => ?_) (fun f cdv A outer s H vs Q E hr h => ?_)
  · obtain ⟨ds, v, hd, ⟨p, row, rule, many, rfl, _⟩, _⟩ := h
    exact dpAll_len hd
  · obtain ⟨ds, v, hd, ⟨p, row, rule, many, rfl, hp, hq, hn, hl, hm, h0, h1, rfl⟩, q⟩ := h
    obtain ⟨v_p, v_row, v_rule, v_many, rfl, d_p, d_row, d_rule, d_many⟩ := args4 hd
    obtain rfl := dp_int d_p
    obtain rfl := dp_int d_many
    have D__law_tells := ok__law_tells (P := P) (w := w) (base := base) T
    refine ⟨_, (pss_cons (ps_set (i := 4) sc__law_on.nd rfl (.inl rfl) (pe_callTy (cl_list (K := K) rfl) (by rfl) T.z_list (by decide +kernel) (pa_cons (pv 1) pa_nil)))
      (pss_cons (ps_for PassesOwn.never rfl (pi_range1 (by rfl) T.z_range (pa_cons (pv 3) pa_nil)) (pg_name (i := 5) sc__law_on.nd rfl (.inl rfl))
      (pss_one (ps_expr (pe_bm PySem.F.plainAttrs_list PySem.F.slot_list_append PySem.F.type_list_append mt_append (pv 4) (pa_cons (pe_cd D__law_tells (hr.mono (by omega)) (by rfl) (pa_cons (pv 0) (pa_cons (pv 4) (pa_cons (pv 2) pa_nil)))) pa_nil)))))
      (pss_one (ps_ret (pv 4))))), ?_⟩
    rw [show start N__law_on [.int p, v_row, v_rule, .int many] = [some (.int p), some v_row, some v_rule, some (.int many), none, none] from rfl]
    refine q_asgL (by walk_at "el") fun f H1 hf e1 h2 => ?_
    refine q_forR1 (n := many) (by walk_at "ea") ⟨h0, by omega⟩ (fun i σ' H' => ∃ y, σ' = [some (.int p), some v_row, some v_rule, some (.int many), some (.ref f), y] ∧ Ex H H' ∧ H' f = some (.lst ((onBy p rule row i).map V.int)))
      (fun H2 e2 => ⟨_, rfl, by walk_at "ex", by walk_at "at"⟩) (fun i σ' H' hi hP => ?_) (fun σ' H' hP => ?_)
    · obtain ⟨y, rfl, eH, hF⟩ := hP
      have hl2 := onBy_len p rule row i
      refine s_appI (by walk_at "at") (by walk_at "ev") (by walk_at "ev") (by omega) fun H3 e3 => ?_
      exact ⟨_, rfl, Ex.mut (by walk_at "ex") hf, upd_same⟩
    · obtain ⟨y, rfl, eH, hF⟩ := hP
      exact s_ret (by walk_at "ev") fun H2 e2 => q f H2 hf (by walk_at "ex") (by walk_at "at")
local macro_rules | `(tactic| walk_at "cv") => `(tactic| focus ((with_reducible show F__law_on _ _); refine ⟨_, _, _, _, rfl, ?_, ?_, ?_, ?_, ?_, ?_, ?_, rfl⟩ <;> walk_at "sd"))
def sp_law_row (K : PySem.W.Frag) : Sp := fun vs H Q _ => ∃ script p most, DpAll K H vs [dl script, .int p, .int most] ∧ 0 < p ∧ p ≤ 97 ∧ 0 ≤ most ∧ most ≤ 30 ∧ ∀ (row : List Int) f H', Nums p row → (row.length : Int) ≤ most → H f = none → Ex H H' → H' f = some (.lst (row.map V.int)) → Q (.ref f) H'
theorem ok__law_row (T : Txt K mg er) : DefOk P w K mg base CX0 3 "_law_row" ["script", "p", "most"] (sp_law_row K) := by
  refine T.d__law_row.ok sc__law_row (fun vs H Q E h => ?_) (fun f cdv A outer s H vs Q E hr h => ?_)
  · obtain ⟨script, p, most, hd, _⟩ := h
    exact dpAll_len hd
  · obtain ⟨script, p, most, hd, hp, hq, h0, hm, q⟩ := h
    obtain ⟨v_script, v_p, v_most, rfl, d_script, d_p, d_most⟩ := args3 hd
    obtain rfl := dp_int d_p
    obtain rfl := dp_int d_most
    have D__law_numbers := ok__law_numbers (P := P) (w := w) (base := base) T
    have D__law_cell_at := ok__law_cell_at (P := P) (w := w) (base := base) T
    have D__law_on := ok__law_on (P := P) (w := w) (base := base) T
    refine ⟨_, (pss_cons (ps_set (i := 3) sc__law_row.nd rfl (.inl rfl) (pe_op op_mod (pe_cd D__law_cell_at (hr.mono (by omega)) (by rfl) (pa_cons (pv 0) (pa_cons pe_int pa_nil))) (pe_op op_add (pv 2) pe_int)))
      (pss_cons (ps_set (i := 4) sc__law_row.nd rfl (.inl rfl) (pe_cd D__law_numbers (hr.mono (by omega)) (by rfl) (pa_cons (pv 1) (pa_cons (pv 3) (pa_cons (pe_cd D__law_cell_at (hr.mono (by omega)) (by rfl) (pa_cons (pv 0) (pa_cons pe_int pa_nil))) pa_nil)))))
      (pss_cut (ps_if (pt_cmpR op_eq (pe_op op_mod (pe_cd D__law_cell_at (hr.mono (by omega)) (by rfl) (pa_cons (pv 0) (pa_cons pe_int pa_nil))) pe_int) pe_int (nomark _))
      (pss_one (ps_setLc (i := 4) (own := [("k", 8)]) (g := gName 8) (tt := tYes) rfl sc__law_row.nd rfl rfl (sw_true rfl rfl rfl (by decide +kernel)) (pi_range1 (by rfl) T.z_range (pa_cons (pv 3) pa_nil)) (blkOk_by (own := [("k", 8)]) (N := N__law_row) (sc := defScope s__law_row) (by decide +kernel)) (fun _ _ _ _ _ => pg_name (i := 8) sc__law_row.nd rfl (Or.inl rfl)) (fun _ _ _ _ _ => pts_nil) (fun _ _ _ _ _ => (pe_op op_mod (pe_cd D__law_cell_at (hr.mono (by omega)) (by rfl) (pa_cons (pv 0) (pa_cons (pe_op op_add pe_int (pv 8)) pa_nil))) (pv 1)))))
      pss_nil)
      (pss_cons (ps_set (i := 5) sc__law_row.nd rfl (.inl rfl) (pe_op op_mod (pe_cd D__law_cell_at (hr.mono (by omega)) (by rfl) (pa_cons (pv 0) (pa_cons pe_int pa_nil))) pe_int))
      (pss_cons (ps_set (i := 6) sc__law_row.nd rfl (.inl rfl) (pe_op op_mod (pe_cd D__law_cell_at (hr.mono (by omega)) (by rfl) (pa_cons (pv 0) (pa_cons pe_int pa_nil))) pe_int))
      (pss_cut (ps_if (PW.pt (pw_and (pt_cmpR op_gt (pv 5) pe_int (nomark _)) (pw_and1 (pt_cmpR op_le (pv 6) (pv 3) (nomark _)))))
      (pss_one (ps_set (i := 4) sc__law_row.nd rfl (.inl rfl) (pe_cd D__law_on (hr.mono (by omega)) (by rfl) (pa_cons (pv 1) (pa_cons (pe_slice (slL (K := K) rfl) (pv 4) po_none (po_some (pv 6))) (pa_cons (pe_cd D__law_numbers (hr.mono (by omega)) (by rfl) (pa_cons (pv 1) (pa_cons (pv 6) (pa_cons (pe_cd D__law_cell_at (hr.mono (by omega)) (by rfl) (pa_cons (pv 0) (pa_cons pe_int pa_nil))) pa_nil)))) (pa_cons (pe_op op_sub (pv 3) (pv 6)) pa_nil)))))))
      pss_nil)
      (pss_cut (ps_if (PW.pt (pw_and (pt_cmpR op_eq (pv 5) pe_int (nomark _)) (pw_and1 (pt_cmpR op_gt (pv 3) pe_int (nomark _)))))
      (pss_cons (ps_set (i := 7) sc__law_row.nd rfl (.inl rfl) (pe_op op_mod (pe_cd D__law_cell_at (hr.mono (by omega)) (by rfl) (pa_cons (pv 0) (pa_cons pe_int pa_nil))) (pv 3)))
      (pss_one (ps_set (i := 4) sc__law_row.nd rfl (.inl rfl) (pe_op op_cat (pe_op op_cat (pe_slice (slL (K := K) rfl) (pv 4) po_none (po_some (pv 7))) (pe_lst (pa_cons (pe_op op_mod (pe_op op_add (pe_ix (ixL (K := K) rfl) (pv 4) (pv 7) (fun _ _ => rfl)) pe_int) (pv 1)) pa_nil))) (pe_slice (slL (K := K) rfl) (pv 4) (po_some (pe_op op_add (pv 7) pe_int)) po_none)))))
      pss_nil)
      (pss_cut (ps_if (pt_cmpR op_eq (pe_op op_mod (pe_op op_fdiv (pe_cd D__law_cell_at (hr.mono (by omega)) (by rfl) (pa_cons (pv 0) (pa_cons pe_int pa_nil))) pe_int) pe_int) pe_int (nomark _))
      (pss_cons (ps_set (i := 7) sc__law_row.nd rfl (.inl rfl) (pe_op op_mod (pe_cd D__law_cell_at (hr.mono (by omega)) (by rfl) (pa_cons (pv 0) (pa_cons pe_int pa_nil))) (pe_op op_add (pv 3) pe_int)))
      (pss_one (ps_set (i := 4) sc__law_row.nd rfl (.inl rfl) (pe_op op_cat (pe_lc (own := [("k", 8)]) (g := gName 8) (tt := tYes) rfl sc__law_row.nd (pi_range1 (by rfl) T.z_range (pa_cons (pv 7) pa_nil)) (blkOk_by (own := [("k", 8)]) (N := N__law_row) (sc := defScope s__law_row) (by decide +kernel)) (fun _ _ _ _ _ => pg_name (i := 8) sc__law_row.nd rfl (Or.inl rfl)) (fun _ _ _ _ _ => pts_nil) (fun _ _ _ _ _ => pe_int)) (pe_slice (slL (K := K) rfl) (pv 4) (po_some (pv 7)) po_none)))))
      pss_nil)
      (pss_one (ps_ret (pv 4))))))))))), ?_⟩
    rw [show start N__law_row [v_script, .int p, .int most] = [some v_script, some (.int p), some (.int most), none, none, none, none, none, none] from rfl]
    have hmp : (0 : Int) < most + 1 := by omega
    -- many
    refine q_asg (by walk_at "ev") fun H1 e1 => ?_
    have hm0 := Int.emod_nonneg (cellAt script 1) (show most + 1 ≠ 0 by omega)
    have hm1 := Int.emod_lt_of_pos (cellAt script 1) hmp
    generalize cellAt script 1 % (most + 1) = many at hm0 hm1 ⊢
    -- row
    refine q_asgL (by walk_at "el") fun f H2 hf e2 h2 => ?_
    have hl2 := lawNums_len p many (cellAt script 2)
    have hn2 := lawNums_nums hp many (cellAt script 2)
    generalize lawNums p many (cellAt script 2) = row at h2 hl2 hn2
    -- by cells
    refine q_cut (M := fun σ' H' => ∃ (row : List Int) (f : Addr) (y : Option V), σ' = [some v_script, some (.int p), some (.int most), some (.int many), some (.ref f), none, none, none, y] ∧ Nums p row ∧ row.length = many.toNat ∧ Ex H H' ∧ H f = none ∧ H' f = some (.lst (row.map V.int))) ?_ ?_
    · refine s_when (b := decide (cellAt script 19 % 4 = 1)) (by walk_at "et") (fun hb H3 e3 => ?_) (fun hb H3 e3 => ?_)
      · refine s_asgL (xs := ((List.range many.toNat).map fun (k : Nat) => cellAt script (20 + (k : Int)) % p).map V.int) (el_r1 _ (by walk_at "ea") (by omega) (fun _ => rfl) (fun k H4 e4 hk => by walk_at "ev")) fun g H4 hg e4 h4 => ?_
        refine ⟨_, g, _, rfl, ?_, ?_, by walk_at "ex", fresh_back (H := H) (H' := H3) (by walk_at "ex") hg, h4⟩
        · intro x hx
          rw [List.mem_map] at hx
          obtain ⟨k, _, rfl⟩ := hx
          exact ⟨Int.emod_nonneg _ (by omega), Int.emod_lt_of_pos _ hp⟩
        · rw [List.length_map, List.length_range]
      · exact ⟨row, f, _, rfl, hn2, hl2, by walk_at "ex", fresh_back (H := H) (H' := H1) (by walk_at "ex") hf, by walk_at "at"⟩
    clear h2 hl2 hn2 hf e1 e2
    rintro σ' H3 ⟨row, f, y, rfl, hn, hl, e3, hf, h3⟩
    -- way, long
    refine q_asg (by walk_at "ev") fun H4 e4 => ?_
    generalize cellAt script 3 % 4 = way
    refine q_asg (by walk_at "ev") fun H5 e5 => ?_
    have hlo : 0 ≤ cellAt script 4 % 8 ∧ cellAt script 4 % 8 < 8 := by omega
    generalize cellAt script 4 % 8 = long at hlo
    refine q_cut (M := fun σ' H' => ∃ (row : List Int) (f : Addr), σ' = [some v_script, some (.int p), some (.int most), some (.int many), some (.ref f), some (.int way), some (.int long), none, y] ∧ Nums p row ∧ row.length = many.toNat ∧ Ex H H' ∧ H f = none ∧ H' f = some (.lst (row.map V.int))) ?_ ?_
    · refine s_when (b := decide (1 < way) && decide (long ≤ many)) (by walk_at "et") (fun hb H6 e6 => ?_) (fun hb H6 e6 => ?_)
      · have hb2 : long ≤ many := by
          rw [Bool.and_eq_true, decide_eq_true_eq, decide_eq_true_eq] at hb
          exact hb.2
        have hl3 := lawNums_len p long (cellAt script 5)
        have hn3 := lawNums_nums hp long (cellAt script 5)
        refine s_asgL (by walk_at "el") fun g H7 hg e7 h7 => ?_
        refine ⟨_, g, rfl, onBy_nums hp (hn.take _) _, ?_, by walk_at "ex", fresh_back (H := H) (H' := H6) (by walk_at "ex") hg, h7⟩
        rw [onBy_len, List.length_take]
        omega
      · exact ⟨row, f, rfl, hn, hl, by walk_at "ex", hf, by walk_at "at"⟩
    clear h3 hl hn hf e3 e4 e5
    rintro σ' H6 ⟨row, f, rfl, hn, hl, e6, hf, h6⟩
    refine q_cut (M := fun σ' H' => ∃ (row : List Int) (f : Addr) (a : Option V), σ' = [some v_script, some (.int p), some (.int most), some (.int many), some (.ref f), some (.int way), some (.int long), a, y] ∧ Nums p row ∧ row.length = many.toNat ∧ Ex H H' ∧ H f = none ∧ H' f = some (.lst (row.map V.int))) ?_ ?_
    · refine s_when (b := decide (way = 3) && decide (0 < many)) (by walk_at "et") (fun hb H7 e7 => ?_) (fun hb H7 e7 => ?_)
      · have hb2 : 0 < many := by
          rw [Bool.and_eq_true, decide_eq_true_eq, decide_eq_true_eq] at hb
          exact hb.2
        refine q_asg (by walk_at "ev") fun H8 e8 => ?_
        have ha0 := Int.emod_nonneg (cellAt script 6) (show many ≠ 0 by omega)
        have ha1 := Int.emod_lt_of_pos (cellAt script 6) hb2
        generalize cellAt script 6 % many = aa at ha0 ha1
        refine s_asgL (by walk_at "el") fun g H9 hg e9 h9 => ?_
        refine ⟨_, g, _, rfl, Nums.append (Nums.append (hn.take _) (Nums.one (Int.emod_nonneg _ (by omega)) (Int.emod_lt_of_pos _ hp))) (hn.drop _), ?_, by walk_at "ex", fresh_back (H := H) (H' := H8) (by walk_at "ex") hg, h9⟩
        rw [List.length_append, List.length_append, List.length_take, List.length_drop, List.length_singleton]
        omega
      · exact ⟨row, f, _, rfl, hn, hl, by walk_at "ex", hf, by walk_at "at"⟩
    clear h6 hl hn hf e6
    rintro σ' H7 ⟨row, f, a, rfl, hn, hl, e7, hf, h7⟩
    refine q_cut (M := fun σ' H' => ∃ (row : List Int) (f : Addr) (a : Option V), σ' = [some v_script, some (.int p), some (.int most), some (.int many), some (.ref f), some (.int way), some (.int long), a, y] ∧ Nums p row ∧ row.length = many.toNat ∧ Ex H H' ∧ H f = none ∧ H' f = some (.lst (row.map V.int))) ?_ ?_
    · refine s_when (b := decide (cellAt script 3 / 4 % 5 = 1)) (by walk_at "et") (fun hb H8 e8 => ?_) (fun hb H8 e8 => ?_)
      · have hmm : (0 : Int) < many + 1 := by omega
        refine q_asg (by walk_at "ev") fun H9 e9 => ?_
        have ha0 := Int.emod_nonneg (cellAt script 6) (show many + 1 ≠ 0 by omega)
        have ha1 := Int.emod_lt_of_pos (cellAt script 6) hmm
        generalize cellAt script 6 % (many + 1) = aa at ha0 ha1
        refine s_asgL (by walk_at "el") fun g H10 hg e10 h10 => ?_
        refine ⟨_, g, _, rfl, Nums.append ?_ (hn.drop _), ?_, by walk_at "ex", fresh_back (H := H) (H' := H9) (by walk_at "ex") hg, h10⟩
        · intro x hx
          rw [List.mem_map] at hx
          obtain ⟨k, _, rfl⟩ := hx
          exact ⟨Int.le_refl 0, hp⟩
        · rw [List.length_append, List.length_map, List.length_range, List.length_drop]
          omega
      · exact ⟨row, f, _, rfl, hn, hl, by walk_at "ex", hf, by walk_at "at"⟩
    clear h7 hl hn hf e7
    rintro σ' H8 ⟨row, f, a, rfl, hn, hl, e8, hf, h8⟩
    exact s_ret (by walk_at "ev") fun H9 e9 => q row f H9 hn (by omega) hf (by walk_at "ex") (by walk_at "at")
def F__law_text (ds : List PyData) (v : V) : Prop := ∃ (p : Int) (row : List Int), ds = [.int p, dl row] ∧ (0 ≤ p) ∧ (p ≤ 97) ∧ (Nums p row) ∧ (row.length ≤ 30) ∧ v = .str (noteOf p row)
theorem ok__law_text (T : Txt K mg er) : DefOk P w K mg base CX0 1 "_law_text" ["p", "row"] (spF K F__law_text) := by
  refine T.d__law_text.ok sc__law_text (fun vs H Q E h => ?_) (fun f cdv A outer s H vs Q E hr h => ?_)
  · obtain ⟨ds, v, hd, ⟨p, row, rfl, _⟩, _⟩ := h
    exact dpAll_len hd
  · obtain ⟨ds, v, hd, ⟨p, row, rfl, h0, hq, hn, hl, rfl⟩, q⟩ := h
    obtain ⟨v_p, v_row, rfl, d_p, d_row⟩ := args2 hd
    obtain rfl := dp_int d_p
    refine ⟨_, (pss_cons (ps_set (i := 2) sc__law_text.nd rfl (.inl rfl) (pe_op op_addS (pe_callTy cl_strI (by rfl) T.z_str (by decide +kernel) (pa_cons (pv 0) pa_nil)) pe_str))
      (pss_cons (ps_for PassesOwn.never rfl (pi_list (pv 1)) (pg_name (i := 3) sc__law_text.nd rfl (.inl rfl))
      (pss_one (ps_set (i := 2) sc__law_text.nd rfl (.inl rfl) (pe_op op_addS (pe_op op_addS (pv 2) pe_str) (pe_callTy cl_strI (by rfl) T.z_str (by decide +kernel) (pa_cons (pv 3) pa_nil))))))
      (pss_one (ps_ret (pv 2))))), ?_⟩
    rw [show start N__law_text [.int p, v_row] = [some (.int p), some v_row, none, none] from rfl]
    have w1 := word_len h0 (by omega)
    have b1 : (":" : PySem.Str).length = 1 := by decide
    have b4 : (" " : PySem.Str).length = 1 := by decide
    refine q_asg (i := 2) (v := .str (textN p row 0)) (ev_op (by walk_at "ev") (by walk_at "ev") (rv_addS (by omega))) fun H1 e1 => ?_
    refine q_forI (ns := row) (by walk_at "ed") (fun H2 i σ' H' => ∃ y, σ' = [some (.int p), some v_row, some (.str (textN p row i)), y] ∧ Ex H2 H')
      (fun H2 e2 => ⟨_, rfl, Ex.refl H2⟩) (fun H2 i σ' H' hP => ?_) (fun H2 i x σ' H' e2 hx hP => ?_) (fun H2 σ' H' e2 hP => ?_)
    · obtain ⟨y, rfl, e⟩ := hP
      exact e
    · obtain ⟨y, rfl, eH⟩ := hP
      obtain ⟨hi, hx2⟩ := List.getElem?_eq_some_iff.mp hx
      have hx3 : gi row (i : Int) = x := by rw [gi_lt hi, hx2]
      have hb := hn x (List.mem_of_getElem? hx)
      have w2 := word_len hb.1 (by omega)
      have t1 := textN_len h0 hn hq i (by omega)
      have t2 : (textN p row i ++ (" " : PySem.Str)).length = (textN p row i).length + 1 := by
        rw [TL.len_tl, TL.len_tl, TL.tl_append, tl_blank] <;> simp
      refine s_asg (v := .str (textN p row i ++ " " ++ word x)) (ev_op (ev_op (by walk_at "ev") (by walk_at "ev") (rv_addS (by omega))) (ev_strI (by walk_at "ev") (by omega)) (rv_addS (by omega))) fun H3 e3 => ?_
      refine ⟨some (.int x), ?_, by walk_at "ex"⟩
      rw [show textN p row (i + 1) = textN p row i ++ " " ++ word x by rw [← hx3]; rfl]
      rfl
    · obtain ⟨y, rfl, eH⟩ := hP
      rw [textN_note] at *
      exact s_ret (by walk_at "ev") fun H3 e3 => q H3 (by walk_at "ex")
local macro_rules | `(tactic| walk_at "cv") => `(tactic| focus ((with_reducible show F__law_text _ _); refine ⟨_, _, rfl, ?_, ?_, ?_, ?_, rfl⟩ <;> walk_at "sd"))
theorem ok__law_spoiled (T : Txt K mg er) : DefOk P w K mg base CX0 2 "_law_spoiled" ["p", "row", "way", "cell"] (sp_spoiled K) := by
  refine T.d__law_spoiled.ok sc__law_spoiled (fun vs H Q E h => ?_) (fun f cdv A outer s H vs Q E hr h => ?_)
  · obtain ⟨p, row, way, cell, hd, _⟩ := h
    exact dpAll_len hd
  · obtain ⟨p, row, way, cell, hd, hp0, hq, hn, hrl, hw0, hw6, hc0, q⟩ := h
    obtain ⟨v_p, v_row, v_way, v_cell, rfl, d_p, d_row, d_way, d_cell⟩ := args4 hd
    obtain rfl := dp_int d_p
    obtain rfl := dp_int d_way
    obtain rfl := dp_int d_cell
    have D__law_text := ok__law_text (P := P) (w := w) (base := base) T
    refine ⟨_, (pss_cons (ps_setLc (i := 4) (own := [("number", 8)]) (g := gName 8) (tt := tYes) rfl sc__law_spoiled.nd rfl rfl (sw_true rfl rfl rfl (by decide +kernel)) (pi_list (pv 1)) (blkOk_by (own := [("number", 8)]) (N := N__law_spoiled) (sc := defScope s__law_spoiled) (by decide +kernel)) (fun _ _ _ _ _ => pg_name (i := 8) sc__law_spoiled.nd rfl (Or.inl rfl)) (fun _ _ _ _ _ => pts_nil) (fun _ _ _ _ _ => (pe_callTy cl_strI (by rfl) T.z_str (by decide +kernel) (pa_cons (pv 8) pa_nil))))
      (pss_cons (ps_set (i := 5) sc__law_spoiled.nd rfl (.inl rfl) (pe_cd D__law_text (hr.mono (by omega)) (by rfl) (pa_cons (pv 0) (pa_cons (pv 1) pa_nil))))
      (pss_cons (ps_set (i := 6) sc__law_spoiled.nd rfl (.inl rfl) (pe_op op_mod (pv 3) (pe_callB (cl_max2 rfl) (by rfl) T.z_max (by decide +kernel) (pa_cons pe_int (pa_cons (pe_callB (cl_len (K := K) rfl) (by rfl) T.z_len PySem.boot_len (pa_cons (pv 1) pa_nil)) pa_nil)))))
      (pss_ifU op_eq (pv 2) (nomark _) (pss_cons (ps_set (i := 7) sc__law_spoiled.nd rfl (.inl rfl) (pe_lst (pa_cons pe_str (pa_cons pe_str (pa_cons pe_str (pa_cons pe_str (pa_cons pe_str (pa_cons pe_str (pa_cons pe_str (pa_cons pe_str (pa_cons pe_str (pa_cons pe_str (pa_cons pe_str (pa_cons pe_str (pa_cons pe_str (pa_cons pe_str pa_nil))))))))))))))))
      (pss_one (ps_ret (pe_op op_addS (pe_op op_addS (pe_ix (ixL (K := K) rfl) (pv 7) (pe_op op_mod (pe_op op_fdiv (pv 3) pe_int) pe_int) (fun _ _ => rfl)) pe_str) (pe_joinK (K := K) rfl pe_str (pe_lc (own := [("word", 9)]) (g := gName 9) (tt := tYes) rfl sc__law_spoiled.nd (pi_list (pv 4)) (blkOk_by (own := [("word", 9)]) (N := N__law_spoiled) (sc := defScope s__law_spoiled) (by decide +kernel)) (fun _ _ _ _ _ => pg_name (i := 9) sc__law_spoiled.nd rfl (Or.inl rfl)) (fun _ _ _ _ _ => pts_nil) (fun _ _ _ _ _ => (pe_op op_addS pe_str (pv 9)))))))))
      (uss_cons (us_of (ps_if (PW.pt (pw_and (pt_cmpR op_eq (pv 2) pe_int (nomark _)) (pw_and1 (pt_cmpR op_gt (pe_callB (cl_len (K := K) rfl) (by rfl) T.z_len PySem.boot_len (pa_cons (pv 1) pa_nil)) pe_int (nomark _)))))
      (pss_cons (ps_set (i := 7) sc__law_spoiled.nd rfl (.inl rfl) (pe_lst (pa_cons (pe_callTy cl_strI (by rfl) T.z_str (by decide +kernel) (pa_cons (pv 0) pa_nil)) (pa_cons pe_str (pa_cons pe_str (pa_cons pe_str (pa_cons pe_str (pa_cons pe_str (pa_cons pe_str (pa_cons pe_str (pa_cons pe_str (pa_cons pe_str (pa_cons pe_str (pa_cons pe_str pa_nil))))))))))))))
      (pss_cons (ps_asg (pe_ix (ixL (K := K) rfl) (pv 7) (pe_op op_mod (pe_op op_fdiv (pv 3) pe_int) pe_int) (fun _ _ => rfl)) (pg_sub (pv 4) (pv 6) set_list))
      (pss_one (ps_ret (pe_op op_addS (pe_op op_addS (pe_callTy cl_strI (by rfl) T.z_str (by decide +kernel) (pa_cons (pv 0) pa_nil)) pe_str) (pe_joinK (K := K) rfl pe_str (pe_lc (own := [("word", 9)]) (g := gName 9) (tt := tYes) rfl sc__law_spoiled.nd (pi_list (pv 4)) (blkOk_by (own := [("word", 9)]) (N := N__law_spoiled) (sc := defScope s__law_spoiled) (by decide +kernel)) (fun _ _ _ _ _ => pg_name (i := 9) sc__law_spoiled.nd rfl (Or.inl rfl)) (fun _ _ _ _ _ => pts_nil) (fun _ _ _ _ _ => (pe_op op_addS pe_str (pv 9))))))))))
      pss_nil))
      (uss_cons (us_if (pt_cmpR op_eq (pv 2) pe_int (nomark _)) (uss_one (us_ret (ue_replIx (pv 5) (pe_op op_mod (pe_op op_fdiv (pv 3) pe_int) pe_int) (fun _ _ => rfl)))) (uss_of pss_nil))
      (uss_cons (us_if (pt_cmpR op_eq (pv 2) pe_int (nomark _)) (uss_cons (us_set (i := 7) sc__law_spoiled.nd rfl (.inl rfl) (ue_lst (ua_cons (ue_of (pe_op op_addS pe_str (pv 5))) (ua_cons (ue_of (pe_op op_addS (pv 5) pe_str)) (ua_cons (ue_of (pe_op op_addS (pv 5) pe_str)) (ua_cons (ue_of (pe_op op_addS pe_str (pv 5))) (ua_cons (ue_replC (pv 5)) (ua_cons (ue_of (pe_op op_addS (pe_op op_addS pe_str (pv 5)) pe_str)) ua_nil)))))))) (uss_one (us_of (ps_ret (pe_ix (ixL (K := K) rfl) (pv 7) (pe_op op_mod (pe_op op_fdiv (pv 3) pe_int) pe_int) (fun _ _ => rfl)))))) (uss_of pss_nil))
      (uss_of (pss_cons (ps_if (pt_cmpR op_eq (pv 2) pe_int (nomark _))
      (pss_one (ps_ret (pe_op op_addS (pv 5) (pe_op op_repS pe_str (pe_op op_add (pe_op op_sub pe_int (pe_callB (cl_len (K := K) rfl) (by rfl) T.z_len PySem.boot_len (pa_cons (pv 1) pa_nil))) (pe_op op_mod (pe_op op_fdiv (pv 3) pe_int) pe_int))))))
      pss_nil)
      (pss_cons (ps_set (i := 7) sc__law_spoiled.nd rfl (.inl rfl) (pe_lst (pa_cons pe_str (pa_cons pe_str (pa_cons pe_str (pa_cons pe_str (pa_cons pe_str (pa_cons pe_str (pa_cons pe_str (pa_cons pe_str (pa_cons pe_str (pa_cons pe_str (pa_cons pe_str pa_nil)))))))))))))
      (pss_one (ps_ret (pe_ix (ixL (K := K) rfl) (pv 7) (pe_op op_mod (pe_op op_fdiv (pv 3) pe_int) pe_int) (fun _ _ => rfl)))))))))))))), ?_⟩
    rw [show start N__law_spoiled [.int p, v_row, .int way, .int cell] = [some (.int p), some v_row, some (.int way), some (.int cell), none, none, none, none, none, none] from rfl]
    have hp1 : 0 ≤ p := by omega
    have lw := word_len hp1 (by omega)
    have wl := words_len hn hq
    have nl := note_len hp1 hn hq
    have b1 : (":" : PySem.Str).length = 1 := by decide
    have b2 : (" " : PySem.Str).length = 1 := by decide
    have hjl := join_len wl
    rw [List.length_map] at hjl
    refine q_asgL (xs := (row.map word).map V.str) (by
      rw [List.map_map]
      exact el_li (fun x => V.str (word x)) (by walk_at "ed") (by omega) (fun _ => rfl) fun x H1 e1 hx => ev_strI (by walk_at "ev") (by have := hn x hx; omega)) fun b H1 hb e1 h1 => ?_
    refine q_asg (i := 5) (v := .str (noteOf p row)) (by walk_at "ev") fun H2 e2 => ?_
    obtain ⟨ml, hml, hm1, hm2⟩ : ∃ ml : Int, ml = (if (row.length : Int) > 1 then (row.length : Int) else 1) ∧ 0 < ml ∧ (0 < row.length → ml = row.length) := by
      refine ⟨_, rfl, ?_, fun h => ?_⟩
      · split
        · omega
        · omega
      · split
        · rfl
        · omega
    refine q_asg (i := 6) (v := .int (cell % ml)) (ev_op (by walk_at "ev") (ev_is (ev_max2 (by walk_at "ev") (by walk_at "ev")) (by rw [hml])) (rv_I hm1)) fun H3 e3 => ?_
    have at0 := Int.emod_nonneg cell (show ml ≠ 0 by omega)
    have at1 := Int.emod_lt_of_pos cell hm1
    generalize cell % ml = at_ at at0 at1 ⊢
    -- way 0
    refine q_when (b := decide (way = 0)) (by walk_at "et") (fun hb0 H4 e4 => ?_) (fun hb0 H4 e4 => ?_)
    · refine q_asgL (xs := L0.map V.str) (el_lst (show EvA _ _ _ [V.str "1", V.str "4", V.str "0", V.str "02", V.str "", V.str "x", V.str "-3", V.str "+5", V.str "101", V.str "1_1", V.str "7 ", V.str " 7", V.str "9", V.str "99"] from by walk_at "ea") (by show 14 ≤ 100000; decide)) fun g H5 hg e5 h5 => ?_
      have dg : Dp K H5 (.ref g) (ds L0) := dp_ds h5
      have hc : 0 ≤ cell / 32 % 14 ∧ cell / 32 % 14 < 14 := by omega
      obtain ⟨w0, hw0⟩ : ∃ w0, L0[(cell / 32 % 14).toNat]? = some w0 := ⟨_, List.getElem?_eq_getElem (show (cell / 32 % 14).toNat < L0.length by show _ < 14; omega)⟩
      have hmem := List.mem_of_getElem? hw0
      have l0 : w0.length ≤ 3 := by
        have a := List.all_eq_true.mp L0_all w0 hmem
        rw [Bool.and_eq_true, Bool.and_eq_true, decide_eq_true_eq] at a
        exact a.2.2
      have l1 : (w0 ++ (":" : PySem.Str)).length = w0.length + 1 := by rw [TL.len_tl, TL.tl_append, List.length_append, ← TL.len_tl, tl_colon]; rfl
      refine s_ret (v := .str (glue w0 (row.map word))) (ev_op (ev_op (ev_ixS (by walk_at "ed") (by walk_at "ev") hc.1 hw0) (by walk_at "ev") (rv_addS (by omega))) (ev_joinG wl (by rw [List.length_map]; omega) (by walk_at "ev") (ev_var rfl) (by walk_at "at") (fun _ => rfl) fun x H6 hx => ev_op (by walk_at "ev") (by walk_at "ev") (rv_addS (by omega))) (rv_addS (by omega))) fun H6 e6 => q _ H6 (bad0 hn hq hrl hmem) (by walk_at "ex")
    -- way 1
    refine q_when (b := decide (way = 1) && decide ((0 : Int) < (row.length : Int))) (by walk_at "et") (fun hb1 H5 e5 => ?_) (fun hb1 H5 e5 => ?_)
    · rw [Bool.and_eq_true, decide_eq_true_eq, decide_eq_true_eq] at hb1
      have hml2 := hm2 (by omega)
      refine q_asgL (xs := (word p :: L1).map V.str) (el_lst (ea_cons (ev_strI (by walk_at "ev") (by omega)) (show EvA _ _ _ [V.str "-1", V.str "+1", V.str "00", V.str "01", V.str "", V.str "x", V.str "1_0", V.str "1.", V.str "100", V.str "0\t", V.str "1,"] from by walk_at "ea")) (by show 12 ≤ 100000; decide)) fun g H6 hg e6 h6 => ?_
      have dg : Dp K H6 (.ref g) (ds (word p :: L1)) := dp_ds h6
      have hc : 0 ≤ cell / 32 % 12 ∧ cell / 32 % 12 < 12 := by omega
      obtain ⟨w0, hw0⟩ : ∃ w0, (word p :: L1)[(cell / 32 % 12).toNat]? = some w0 := ⟨_, List.getElem?_eq_getElem (show (cell / 32 % 12).toNat < (word p :: L1).length by show _ < 12; omega)⟩
      have hmem := List.mem_cons.mp (List.mem_of_getElem? hw0)
      have l0 : w0.length ≤ 3 := by
        rcases hmem with rfl | hmem
        · omega
        · have a := List.all_eq_true.mp L1_all w0 hmem
          rw [Bool.and_eq_true, Bool.and_eq_true, Bool.and_eq_true, decide_eq_true_eq] at a
          exact a.2.2.2
      refine q_setV (l := b) (xs := (row.map word).map V.str) (i := at_) (v := .str w0) (by walk_at "at") (ev_ixS (by walk_at "ed") (by walk_at "ev") hc.1 hw0) (by walk_at "ev") (by walk_at "ev") at0 (by rw [List.length_map, List.length_map]; omega) fun H7 e7 => ?_
      have hb7 : upd H7 b (.lst (((row.map word).map V.str).set at_.toNat (.str w0))) b = some (.lst (((row.map word).set at_.toNat w0).map V.str)) := by rw [List.map_set]; exact upd_same
      have eX : Ex H (upd H7 b (.lst (((row.map word).map V.str).set at_.toNat (.str w0)))) := Ex.mut (by walk_at "ex") hb
      generalize upd H7 b (.lst (((row.map word).map V.str).set at_.toNat (.str w0))) = H8 at hb7 eX ⊢
      have wl2 : ∀ v ∈ (row.map word).set at_.toNat w0, v.length ≤ 4 := fun v hv => by
        rcases set_mem hv with hv | rfl
        · exact wl v hv
        · omega
      have hjl2 := join_len wl2
      rw [List.length_set, List.length_map] at hjl2
      have l1 : (word p ++ (":" : PySem.Str)).length = (word p).length + 1 := by rw [TL.len_tl, TL.tl_append, List.length_append, ← TL.len_tl, tl_colon]; rfl
      refine s_ret (v := .str (glue (word p) ((row.map word).set at_.toNat w0))) (ev_op (ev_op (ev_strI (by walk_at "ev") (by omega)) (by walk_at "ev") (rv_addS (by omega))) (ev_joinG wl2 (by rw [List.length_set, List.length_map]; omega) (by walk_at "ev") (ev_var rfl) hb7 (fun _ => rfl) fun x H6 hx => ev_op (by walk_at "ev") (by walk_at "ev") (rv_addS (by omega))) (rv_addS (by omega))) fun H9 e9 => q _ H9 (bad1 hp0 hn hq hrl (by omega) hmem) (by walk_at "ex")
    -- way 2
    refine q_when (b := decide (way = 2)) (by walk_at "et") (fun hb2 H6 e6 => ?_) (fun hb2 H6 e6 => ?_)
    · have hc : 0 ≤ cell / 32 % 4 ∧ cell / 32 % 4 < 4 := by omega
      obtain ⟨z, hz⟩ : ∃ z, (["", ";", "::", " :"] : List PySem.Str)[(cell / 32 % 4).toNat]? = some z := ⟨_, List.getElem?_eq_getElem (show (cell / 32 % 4).toNat < 4 by omega)⟩
      have hmem := List.mem_of_getElem? hz
      simp only [List.mem_cons, List.not_mem_nil, or_false] at hmem
      refine s_ret (v := .str (PySem.Txt.replace (noteOf p row) ":" z)) (ev_replIx (by walk_at "ev") (fun u hu => ?_) (by walk_at "ev") hc.1 hz) fun H7 e7 => q _ H7 (bad2 hp0 hn hq hrl hmem) (by walk_at "ex")
      have hlu : u.length ≤ 2 ∧ ((":" : PySem.Str) == u) = false := by
        simp only [List.mem_cons, List.not_mem_nil, or_false] at hu
        rcases hu with rfl | rfl | rfl | rfl <;> decide
      have := Nat.mul_le_mul (show (noteOf p row).length + 1 ≤ 200 by omega) hlu.1
      exact ⟨by omega, hlu.2⟩
    -- way 3
    refine q_when (b := decide (way = 3)) (by walk_at "et") (fun hb3 H7 e7 => ?_) (fun hb3 H7 e7 => ?_)
    · have l2 : (("(" : PySem.Str) ++ noteOf p row).length = 1 + (noteOf p row).length := by rw [TL.len_tl, TL.tl_append, List.length_append, ← TL.len_tl, ← TL.len_tl]; rfl
      have m1 : ("\n" : PySem.Str).length = 1 := by decide
      have m2 : ("\t" : PySem.Str).length = 1 := by decide
      have m3 : ("(" : PySem.Str).length = 1 := by decide
      have m4 : (")" : PySem.Str).length = 1 := by decide
      have m5 : (": " : PySem.Str).length = 2 := by decide
      refine q_asgL (xs := (texts3 (noteOf p row)).map V.str) (el_lst (ea_cons (ev_op (by walk_at "ev") (by walk_at "ev") (rv_addS (by omega))) (ea_cons (ev_op (by walk_at "ev") (by walk_at "ev") (rv_addS (by omega))) (ea_cons (ev_op (by walk_at "ev") (by walk_at "ev") (rv_addS (by omega))) (ea_cons (ev_op (by walk_at "ev") (by walk_at "ev") (rv_addS (by omega))) (ea_cons (ev_replC (by walk_at "ev") (by rw [m5]; omega)) (ea_cons (ev_op (ev_op (by walk_at "ev") (by walk_at "ev") (rv_addS (by omega))) (by walk_at "ev") (rv_addS (by omega))) ea_nil)))))) (by show 6 ≤ 100000; decide)) fun g H8 hg e8 h8 => ?_
      have dg : Dp K H8 (.ref g) (ds (texts3 (noteOf p row))) := dp_ds h8
      have hc : 0 ≤ cell / 32 % 6 ∧ cell / 32 % 6 < 6 := by omega
      obtain ⟨z, hz⟩ : ∃ z, (texts3 (noteOf p row))[(cell / 32 % 6).toNat]? = some z := ⟨_, List.getElem?_eq_getElem (show (cell / 32 % 6).toNat < (texts3 (noteOf p row)).length by show _ < 6; omega)⟩
      refine s_ret (v := .str z) (ev_ixS (by walk_at "ed") (by walk_at "ev") hc.1 hz) fun H9 e9 => q _ H9 (bad3 hp0 hn hq hrl (List.mem_of_getElem? hz)) (by walk_at "ex")
    -- way 4
    refine q_when (b := decide (way = 4)) (by walk_at "et") (fun hb4 H8 e8 => ?_) (fun hb4 H8 e8 => ?_)
    · have hc : 0 ≤ cell / 32 % 5 ∧ cell / 32 % 5 < 5 := by omega
      have lz : (" 0" : PySem.Str).length = 2 := by decide
      have lr : (repS " 0" (31 - (row.length : Int) + cell / 32 % 5).toNat).length ≤ 200 := by
        rw [TL.len_tl, repS_tl]
        have e : ∀ m : Nat, (List.replicate m (TL.tl (" 0" : PySem.Str))).flatten.length = m * 2 := by
          intro m
          induction m with
          | zero => rfl
          | succ m ih => rw [List.replicate_succ, List.flatten_cons, List.length_append, ih, ← TL.len_tl, lz]; omega
        rw [e]
        omega
      refine s_ret (v := .str (noteOf p row ++ repS " 0" (31 - (row.length : Int) + cell / 32 % 5).toNat)) (ev_op (by walk_at "ev") (ev_op (by walk_at "ev") (by walk_at "ev") (rv_repS (by omega) (by omega))) (rv_addS (by omega))) fun H9 e9 => q _ H9 (bad4 hp0 hn hq hrl (by omega) (by omega)) (by walk_at "ex")
    -- else
    refine q_asgL (xs := L5.map V.str) (el_lst (show EvA _ _ _ [V.str "", V.str ":", V.str " ", V.str "2", V.str "2 1", V.str "2:1", V.str "2:0 1", V.str "2: 0  1", V.str "2::", V.str "2: 2", V.str "3: 0 1 2 3"] from by walk_at "ea") (by show 11 ≤ 100000; decide)) fun g H9 hg e9 h9 => ?_
    have dg : Dp K H9 (.ref g) (ds L5) := dp_ds h9
    have hc : 0 ≤ cell / 32 % 11 ∧ cell / 32 % 11 < 11 := by omega
    obtain ⟨z, hz⟩ : ∃ z, L5[(cell / 32 % 11).toNat]? = some z := ⟨_, List.getElem?_eq_getElem (show (cell / 32 % 11).toNat < L5.length by show _ < 11; omega)⟩
    exact s_ret (v := .str z) (ev_ixS (by walk_at "ed") (by walk_at "ev") hc.1 hz) fun H10 e10 => q _ H10 (bad5 (List.mem_of_getElem? hz)) (by walk_at "ex")
def F_number_of (ds : List PyData) (v : V) : Prop := ∃ (w : PySem.Str) (n : Int), ds = [.str w] ∧ (IsW w n) ∧ v = .int n
theorem ok_number_of (T : Txt K mg er) : DefOk P w K mg base CX0 1 "number_of" ["word"] (spF K F_number_of) := by
  refine T.d_number_of.ok sc_number_of (fun vs H Q E h => ?_) (fun f cdv A outer s H vs Q E hr h => ?_)
  · obtain ⟨ds, v, hd, ⟨w, n, rfl, _⟩, _⟩ := h
    exact dpAll_len hd
  · obtain ⟨ds, v, hd, ⟨w, n, rfl, hw, rfl⟩, q⟩ := h
    obtain ⟨v_w, rfl, d_w⟩ := args1 hd
    obtain rfl := dp_str d_w
    refine ⟨_, (pss_cons (ps_if (PW.pt (pw_or (pt_not (pt_chain op_le op_le pe_int (pe_callB cl_lenS (by rfl) T.z_len PySem.boot_len (pa_cons (pv 0) pa_nil)) pe_int)) (pw_or1 (PW.pt (pw_and (pt_cmpR op_eq (pe_ix ix_str (pv 0) pe_int (fun _ _ => rfl)) pe_str (nomark _)) (pw_and1 (pt_cmpR op_gt (pe_callB cl_lenS (by rfl) T.z_len PySem.boot_len (pa_cons (pv 0) pa_nil)) pe_int (nomark _))))))))
      (pss_one ps_never)
      pss_nil)
      (pss_cons (ps_for PassesOwn.never rfl (pi_str (pv 0)) (pg_name (i := 1) sc_number_of.nd rfl (.inl rfl))
      (pss_one (ps_if (pt_cmpR op_notInS (pv 1) (pe_gs (by rfl) T.c_FIGURES) (by rfl))
      (pss_one ps_never)
      pss_nil)))
      (pss_one (ps_ret (pe_callTy cl_intS (by rfl) T.z_int (by decide +kernel) (pa_cons (pv 0) pa_nil)))))), ?_⟩
    rw [show start N_number_of [.str w] = [some (.str w), none] from rfl]
    have hw0 := hw
    unfold IsW isWB at hw0
    simp only [Bool.and_eq_true, Bool.or_eq_true, decide_eq_true_eq, List.all_eq_true] at hw0
    obtain ⟨⟨⟨⟨w1, w2⟩, w3⟩, w4⟩, w5⟩ := hw0
    obtain ⟨c, r, hc⟩ : ∃ c r, w.cps.toList = c :: r := by
      cases h : w.cps.toList with
      | nil =>
        rw [TL.len_tl] at w1
        have h : TL.tl w = [] := h
        rw [h] at w1
        exact absurd w1 (by decide)
      | cons c r => exact ⟨c, r, rfl⟩
    have w6 : ¬ ((⟨#[c]⟩ : PySem.Str) = "0" ∧ 1 < w.length) := fun ⟨h1, h2⟩ => by
      have h3 := congrArg TL.tl h1
      have h4 : [c] = [48] := h3.trans (by decide)
      have h5 : c = 48 := List.head_eq_of_cons_eq h4
      rcases w3 with w3 | w3
      · omega
      · rw [hc, h5] at w3
        exact w3 rfl
    refine q_when (b := !(decide ((1 : Int) ≤ (w.length : Int)) && decide ((w.length : Int) ≤ 2)) || (decide ((⟨#[c]⟩ : PySem.Str) = "0") && decide ((1 : Int) < (w.length : Int)))) (et_or (by walk_at "et") (fun _ => et_and (et_test (ev_op (ev_sixS (by walk_at "ev") (by walk_at "ev") (by omega) hc) (by walk_at "ev") (by walk_at "rv"))) (fun _ => by walk_at "et"))) (fun hb H1 e1 => ?_) (fun hb H1 e1 => ?_)
    · exfalso
      rw [decide_eq_true (show (1 : Int) ≤ (w.length : Int) by omega), decide_eq_true (show (w.length : Int) ≤ 2 by omega)] at hb
      have hb : decide ((⟨#[c]⟩ : PySem.Str) = "0") = true ∧ decide ((1 : Int) < (w.length : Int)) = true := by simpa using hb
      exact w6 ⟨of_decide_eq_true hb.1, by have := of_decide_eq_true hb.2; omega⟩
    refine q_forS (z := w) (by walk_at "ev") (fun H2 i σ' H' => ∃ y, σ' = [some (.str w), y] ∧ Ex H2 H') (fun H2 e2 => ⟨_, rfl, Ex.refl H2⟩) (fun H2 i c2 σ' H' e2 hi hP => ?_) (fun H2 σ' H' e2 hP => ?_)
    · obtain ⟨y, rfl, eH⟩ := hP
      have hm := w4 c2 (List.mem_of_getElem? hi)
      refine s_when (b := !decide (c2 ∈ (("0123456789" : PySem.Str)).cps.toList)) (et_test (ev_op (by walk_at "ev") (by walk_at "ev") rv_notInS)) (fun hb H3 e3 => ?_) (fun hb H3 e3 => ⟨_, rfl, by walk_at "ex"⟩)
      rw [decide_eq_true hm] at hb
      cases hb
    · obtain ⟨y, rfl, eH⟩ := hP
      exact s_ret (ev_intS (by walk_at "ev") w5 (by omega)) fun H3 e3 => q H3 (by walk_at "ex")
local macro_rules | `(tactic| walk_at "cv") => `(tactic| focus ((with_reducible show F_number_of _ _); refine ⟨_, _, rfl, ?_, rfl⟩ <;> walk_at "sd"))
theorem okX_number_of (T : Txt K mg er) : DefX P w K mg base 1 "number_of" ["word"] (spNum K er) := by
  refine T.d_number_of.okX sc_number_of (fun vs H Q E h => ?_) (fun f cdv A outer s H vs Q E hr h => ?_)
  · obtain ⟨w, hd, _⟩ := h
    exact dpAll_len hd
  · obtain ⟨w, hd, h⟩ := h
    obtain ⟨v_word, rfl, d_word⟩ := args1 hd
    obtain rfl := dp_str d_word
    refine ⟨_, (pss_cons (ps_if (PW.pt (pw_or (pt_not (pt_chain op_le op_le pe_int (pe_callB cl_lenS (by rfl) T.z_len PySem.boot_len (pa_cons (pv 0) pa_nil)) pe_int)) (pw_or1 (PW.pt (pw_and (pt_cmpR op_eq (pe_ix ix_str (pv 0) pe_int (fun _ _ => rfl)) pe_str (nomark _)) (pw_and1 (pt_cmpR op_gt (pe_callB cl_lenS (by rfl) T.z_len PySem.boot_len (pa_cons (pv 0) pa_nil)) pe_int (nomark _))))))))
      (pss_one (ps_raiseE rfl (takes_of rfl rfl rfl rfl) T.err (show 6 < 7 by decide) T.err.g6 (by rfl)))
      pss_nil)
      (pss_cons (ps_for (passes_of rfl) rfl (pi_str (pv 0)) (pg_name (i := 1) sc_number_of.nd rfl (.inl rfl))
      (pss_one (ps_if (pt_cmpR op_notInS (pv 1) (pe_gs (by rfl) T.c_FIGURES) (by rfl))
      (pss_one (ps_raiseE rfl (takes_of rfl rfl rfl rfl) T.err (show 6 < 7 by decide) T.err.g6 (by rfl)))
      pss_nil)))
      (pss_one (ps_ret (pe_callTy cl_intS (by rfl) T.z_int (by decide +kernel) (pa_cons (pv 0) pa_nil)))))), ?_⟩
    rw [show start N_number_of [.str w] = [some (.str w), none] from rfl]
    rcases h with ⟨n, hw, q⟩ | ⟨hw, q⟩
    · have hw0 := hw
      unfold IsW isWB at hw0
      simp only [Bool.and_eq_true, Bool.or_eq_true, decide_eq_true_eq, List.all_eq_true] at hw0
      obtain ⟨⟨⟨⟨w1, w2⟩, w3⟩, w4⟩, w5⟩ := hw0
      obtain ⟨c, r, hc⟩ : ∃ c r, w.cps.toList = c :: r := by
        cases h : w.cps.toList with
        | nil =>
          rw [TL.len_tl] at w1
          have h : TL.tl w = [] := h
          rw [h] at w1
          exact absurd w1 (by decide)
        | cons c r => exact ⟨c, r, rfl⟩
      have w6 : ¬ ((⟨#[c]⟩ : PySem.Str) = "0" ∧ 1 < w.length) := fun ⟨h1, h2⟩ => by
        have h3 := congrArg TL.tl h1
        have h4 : [c] = [48] := h3.trans (by decide)
        have h5 : c = 48 := List.head_eq_of_cons_eq h4
        rcases w3 with w3 | w3
        · omega
        · rw [hc, h5] at w3
          exact w3 rfl
      refine q_when (b := !(decide ((1 : Int) ≤ (w.length : Int)) && decide ((w.length : Int) ≤ 2)) || (decide ((⟨#[c]⟩ : PySem.Str) = "0") && decide ((1 : Int) < (w.length : Int)))) (et_or (by walk_at "et") (fun _ => et_and (et_test (ev_op (ev_sixS (by walk_at "ev") (by walk_at "ev") (by omega) hc) (by walk_at "ev") (by walk_at "rv"))) (fun _ => by walk_at "et"))) (fun hb H1 e1 => ?_) (fun hb H1 e1 => ?_)
      · exfalso
        rw [decide_eq_true (show (1 : Int) ≤ (w.length : Int) by omega), decide_eq_true (show (w.length : Int) ≤ 2 by omega)] at hb
        have hb : decide ((⟨#[c]⟩ : PySem.Str) = "0") = true ∧ decide ((1 : Int) < (w.length : Int)) = true := by simpa using hb
        exact w6 ⟨of_decide_eq_true hb.1, by have := of_decide_eq_true hb.2; omega⟩
      refine q_forS (z := w) (by walk_at "ev") (fun H2 i σ' H' => ∃ y, σ' = [some (.str w), y] ∧ Ex H2 H') (fun H2 e2 => ⟨_, rfl, Ex.refl H2⟩) (fun H2 i c2 σ' H' e2 hi hP => ?_) (fun H2 σ' H' e2 hP => ?_)
      · obtain ⟨y, rfl, eH⟩ := hP
        have hm := w4 c2 (List.mem_of_getElem? hi)
        refine s_when (b := !decide (c2 ∈ (("0123456789" : PySem.Str)).cps.toList)) (et_test (ev_op (by walk_at "ev") (by walk_at "ev") rv_notInS)) (fun hb H3 e3 => ?_) (fun hb H3 e3 => ⟨_, rfl, by walk_at "ex"⟩)
        rw [decide_eq_true hm] at hb
        cases hb
      · obtain ⟨y, rfl, eH⟩ := hP
        exact s_ret (ev_intS (by walk_at "ev") w5 (by omega)) fun H3 e3 => q H3 (by walk_at "ex")
    · have hw0 := hw
      unfold BadW badWB at hw0
      rw [Bool.and_eq_true, decide_eq_true_eq] at hw0
      obtain ⟨hl, hw0⟩ := hw0
      by_cases h12 : 1 ≤ w.length ∧ w.length ≤ 2
      · obtain ⟨c, r, hc⟩ : ∃ c r, w.cps.toList = c :: r := by
          cases h : w.cps.toList with
          | nil =>
            rw [TL.len_tl] at h12
            have h : TL.tl w = [] := h
            rw [h] at h12
            exact absurd h12.1 (by decide)
          | cons c r => exact ⟨c, r, rfl⟩
        refine q_when (b := !(decide ((1 : Int) ≤ (w.length : Int)) && decide ((w.length : Int) ≤ 2)) || (decide ((⟨#[c]⟩ : PySem.Str) = "0") && decide ((1 : Int) < (w.length : Int)))) (et_or (by walk_at "et") (fun _ => et_and (et_test (ev_op (ev_sixS (by walk_at "ev") (by walk_at "ev") (by omega) hc) (by walk_at "ev") (by walk_at "rv"))) (fun _ => by walk_at "et"))) (fun hb H1 e1 => q H1 e1) (fun hb H1 e1 => ?_)
        have h48 : ¬ (c = 48 ∧ 1 < w.length) := fun ⟨z1, z2⟩ => by
          subst z1
          rw [decide_eq_true (show (1 : Int) ≤ (w.length : Int) by omega), decide_eq_true (show (w.length : Int) ≤ 2 by omega), decide_eq_true (show (1 : Int) < (w.length : Int) by omega), decide_eq_true (show (⟨#[48]⟩ : PySem.Str) = "0" by decide)] at hb
          cases hb
        have hany : (w.cps.toList.any fun c => !decide (c ∈ figs)) = true := by
          rw [Bool.or_eq_true, Bool.or_eq_true, Bool.or_eq_true, Bool.and_eq_true] at hw0
          simp only [decide_eq_true_eq] at hw0
          rcases hw0 with (z | z) | z
          · omega
          · rw [hc] at z
            exact absurd ⟨Option.some.inj z.1, z.2⟩ h48
          · exact z
        refine q_forS (z := w) (by walk_at "ev") (fun H2 i σ' H' => ∃ y, σ' = [some (.str w), y] ∧ Ex H2 H' ∧ ∀ m c', m < i → w.cps.toList[m]? = some c' → c' ∈ figs) (fun H2 e2 => ⟨_, rfl, Ex.refl H2, fun m c' hm => absurd hm (Nat.not_lt_zero m)⟩) (fun H2 i c2 σ' H' e2 hi hP => ?_) (fun H2 σ' H' e2 hP => ?_)
        · obtain ⟨y, rfl, eH, hg⟩ := hP
          refine s_when (b := !decide (c2 ∈ (("0123456789" : PySem.Str)).cps.toList)) (et_test (ev_op (by walk_at "ev") (by walk_at "ev") rv_notInS)) (fun hb H3 e3 => q H3 (by walk_at "ex")) (fun hb H3 e3 => ⟨_, rfl, by walk_at "ex", fun m c' hm hc' => ?_⟩)
          rw [Bool.not_eq_false', decide_eq_true_eq, figs_eq] at hb
          by_cases hmi : m < i
          · exact hg m c' hmi hc'
          · have : m = i := by omega
            subst this
            rw [hi] at hc'
            cases hc'
            exact hb
        · obtain ⟨y, rfl, eH, hg⟩ := hP
          exfalso
          rw [List.any_eq_true] at hany
          obtain ⟨c', hm, hn⟩ := hany
          obtain ⟨m, hlt, hget⟩ := List.getElem_of_mem hm
          rw [decide_eq_true (hg m c' hlt (by rw [List.getElem?_eq_getElem hlt, hget]))] at hn
          cases hn
      · refine q_when (b := !(decide ((1 : Int) ≤ (w.length : Int)) && decide ((w.length : Int) ≤ 2)) || false) (et_or (by walk_at "et") (fun hb => ?_)) (fun hb H1 e1 => q H1 e1) (fun hb H1 e1 => ?_)
        · exfalso
          have hb : (1 : Int) ≤ (w.length : Int) ∧ (w.length : Int) ≤ 2 := by simpa using hb
          omega
        · exfalso
          have hb : (1 : Int) ≤ (w.length : Int) ∧ (w.length : Int) ≤ 2 := by simpa using hb
          omega

def F_is_prime (ds : List PyData) (v : V) : Prop := ∃ (p : Int), ds = [.int p] ∧ v = .bl (isPrime p)
theorem ok_is_prime (T : Txt K mg er) : DefOk P w K mg base CX0 1 "is_prime" ["p"] (spF K F_is_prime) := by
  refine T.d_is_prime.ok sc_is_prime (fun vs H Q E h => ?_) (fun f cdv A outer s H vs Q E hr h => ?_)
  · obtain ⟨ds, v, hd, ⟨p, rfl, _⟩, _⟩ := h
    exact dpAll_len hd
  · obtain ⟨ds, v, hd, ⟨p, rfl, rfl⟩, q⟩ := h
    obtain ⟨v_p, rfl, d_p⟩ := args1 hd
    obtain rfl := dp_int d_p
    refine ⟨_, (pss_cons (ps_if (pt_not (pt_chain op_le op_le pe_int (pv 0) pe_int))
      (pss_one (ps_ret pe_bl))
      pss_nil)
      (pss_one (ps_ret (pe_callB (cl_all (K := K) rfl rfl) (by rfl) T.z_all (by decide +kernel) (pa_cons (pe_lc (own := [("k", 1)]) (g := gName 1) rfl sc_is_prime.nd (pi_range2 (by rfl) T.z_range (pa_cons pe_int (pa_cons (pv 0) pa_nil))) (blkOk_by (own := [("k", 1)]) (N := N_is_prime) (sc := defScope s_is_prime) (by decide +kernel)) (fun _ _ _ _ _ => pg_name (i := 1) sc_is_prime.nd rfl (Or.inl rfl)) (fun _ _ _ _ _ => (pts_one (pt_cmpR op_le (pe_op op_mul (pv 1) (pv 1)) (pv 0) (nomark _)))) (fun _ _ _ _ _ => (pe_cmpR op_ne (pe_op op_mod (pv 0) (pv 1)) pe_int (nomark _)))) pa_nil))))), ?_⟩
    rw [show start N_is_prime [.int p] = [some (.int p), none] from rfl]
    refine q_when (b := !(decide (2 ≤ p) && decide (p ≤ 97))) (by walk_at "et") (fun hb H1 e1 => ?_) (fun hb H1 e1 => ?_)
    · have e : isPrime p = false := by
        unfold isPrime
        rw [if_neg]
        rw [Bool.not_eq_true'] at hb
        rw [hb]
        exact Bool.false_ne_true
      rw [e] at q
      exact s_ret (by walk_at "ev") fun H2 e2 => q H2 (by walk_at "ex")
    · have hb' : (decide (2 ≤ p) && decide (p ≤ 97)) = true := by
        cases h : (decide (2 ≤ p) && decide (p ≤ 97)) with
        | true => rfl
        | false =>
          rw [h] at hb
          cases hb
      have hp : 2 ≤ p ∧ p ≤ 97 := by
        rw [Bool.and_eq_true, decide_eq_true_eq, decide_eq_true_eq] at hb'
        exact hb'
      refine s_ret (v := .bl (isPrime p)) ?_ (fun H2 e2 => q H2 (by walk_at "ex"))
      have e : isPrime p = ((((List.range (p - 2).toNat).filter fun (i : Nat) => decide (((2 : Int) + (i : Int)) * (2 + (i : Int)) ≤ p)).map fun (i : Nat) => !decide (p % (2 + (i : Int)) = 0))).all id := by
        unfold isPrime
        rw [if_pos hb']
      rw [e]
      refine ev_allN ?_
      rw [List.map_map]
      refine el_lcR2 (fun (i : Nat) => decide (((2 : Int) + (i : Int)) * (2 + (i : Int)) ≤ p)) (fun (i : Nat) => V.bl (!decide (p % (2 + (i : Int)) = 0))) (by walk_at "ea") (by omega) (fun _ => rfl) (fun i H2 e2 hi => by walk_at "et") (fun i H2 e2 hi _ => ?_)
      have h2 : (0 : Int) < 2 + (i : Int) := by omega
      walk_at "ev"
local macro_rules | `(tactic| walk_at "cv") => `(tactic| focus ((with_reducible show F_is_prime _ _); exact ⟨_, rfl, rfl⟩))
def F_ask_prime (ds : List PyData) (v : V) : Prop := ∃ (p : Int), ds = [.int p] ∧ (isPrime p = true) ∧ v = .non
theorem ok_ask_prime (T : Txt K mg er) : DefOk P w K mg base CX0 2 "ask_prime" ["p"] (spF K F_ask_prime) := by
  refine T.d_ask_prime.ok sc_ask_prime (fun vs H Q E h => ?_) (fun f cdv A outer s H vs Q E hr h => ?_)
  · obtain ⟨ds, v, hd, ⟨p, rfl, _⟩, _⟩ := h
    exact dpAll_len hd
  · obtain ⟨ds, v, hd, ⟨p, rfl, hp, rfl⟩, q⟩ := h
    obtain ⟨v_p, rfl, d_p⟩ := args1 hd
    obtain rfl := dp_int d_p
    have D_is_prime := ok_is_prime (P := P) (w := w) (base := base) T
    refine ⟨_, (pss_one (ps_if (pt_not (pt_val (pe_cd D_is_prime (hr.mono (by omega)) (by rfl) (pa_cons (pv 0) pa_nil))))
      (pss_one ps_never)
      pss_nil)), ?_⟩
    rw [show start N_ask_prime [.int p] = [some (.int p)] from rfl]
    refine s_when (b := !(isPrime p)) (by walk_at "et") (fun hb H1 e1 => ?_) (fun hb H1 e1 => q H1 (by walk_at "ex"))
    rw [hp] at hb
    cases hb
local macro_rules | `(tactic| walk_at "cv") => `(tactic| focus ((with_reducible show F_ask_prime _ _); refine ⟨_, rfl, ?_, rfl⟩ <;> walk_at "sd"))
def E_ask_prime (ds : List PyData) (i : Nat) : Prop := ∃ (p : Int), ds = [.int p] ∧ (isPrime p = false ∧ i = 0)
theorem okX_ask_prime (T : Txt K mg er) : DefX P w K mg base 2 "ask_prime" ["p"] (spE K er E_ask_prime) := by
  refine T.d_ask_prime.okX sc_ask_prime (fun vs H Q E h => ?_) (fun f cdv A outer s H vs Q E hr h => ?_)
  · obtain ⟨ds, i, hd, ⟨p, rfl, _⟩, _⟩ := h
    exact dpAll_len hd
  · obtain ⟨ds, i, hd, ⟨p, rfl, hR⟩, hi, q⟩ := h
    obtain ⟨v_p, rfl, d_p⟩ := args1 hd
    obtain rfl := dp_int d_p
    have D_is_prime := ok_is_prime (P := P) (w := w) (base := base) T
    obtain ⟨hp, rfl⟩ := hR
    refine ⟨_, (pss_cons (ps_if (pt_not (pt_val (pe_cd D_is_prime (hr.mono (by omega)) (by rfl) (pa_cons (pv 0) pa_nil))))
      (pss_one (ps_raiseE rfl (takes_of rfl rfl rfl rfl) T.err (show 0 < 7 by decide) T.err.g0 (by rfl)))
      pss_nil)
      pss_never), ?_⟩
    rw [show start N_ask_prime [.int p] = [some (.int p)] from rfl]
    refine q_when (b := !(isPrime p)) (by walk_at "et") (fun hb H1 e1 => ?_) (fun hb H1 e1 => ?_)
    · exact q H1 e1
    · rw [hp] at hb
      cases hb
theorem okN_ask_prime (T : Txt K mg er) : DefXN P w K mg base 2 "ask_prime" ["p"] (spE K er E_ask_prime) := by
  refine T.d_ask_prime.okXN sc_ask_prime (fun vs H Q E h => ?_) (fun f cdv A outer s H vs Q E hr h => ?_)
  · obtain ⟨ds, i, hd, ⟨p, rfl, _⟩, _⟩ := h
    exact dpAll_len hd
  · obtain ⟨ds, i, hd, ⟨p, rfl, hR⟩, hi, q⟩ := h
    obtain ⟨v_p, rfl, d_p⟩ := args1 hd
    obtain rfl := dp_int d_p
    have D_is_prime := ok_is_prime (P := P) (w := w) (base := base) T
    obtain ⟨hp, rfl⟩ := hR
    refine ⟨_, (pss_cons (ps_if (pt_not (pt_val (pe_cd D_is_prime (hr.mono (by omega)) (by rfl) (pa_cons (pv 0) pa_nil))))
      (pss_one (ps_raiseN rfl (L2N.takes_of rfl rfl rfl rfl) T.err (show 0 < 7 by decide) T.err.g0 (by rfl)))
      pss_nil)
      pss_never), ?_⟩
    rw [show start N_ask_prime [.int p] = [some (.int p)] from rfl]
    refine q_when (b := !(isPrime p)) (by walk_at "et") (fun hb H1 e1 => ?_) (fun hb H1 e1 => ?_)
    · exact q H1 e1
    · rw [hp] at hb
      cases hb
def F_are_numbers (ds : List PyData) (v : V) : Prop := ∃ (p : Int) (sm : List Int), ds = [.int p, dl sm] ∧ (sm.length ≤ 40000) ∧ v = .bl (areNums p sm)
theorem ok_are_numbers (T : Txt K mg er) : DefOk P w K mg base CX0 1 "are_numbers" ["p", "some"] (spF K F_are_numbers) := by
  refine T.d_are_numbers.ok sc_are_numbers (fun vs H Q E h => ?_) (fun f cdv A outer s H vs Q E hr h => ?_)
  · obtain ⟨ds, v, hd, ⟨p, sm, rfl, _⟩, _⟩ := h
    exact dpAll_len hd
  · obtain ⟨ds, v, hd, ⟨p, sm, rfl, hl, rfl⟩, q⟩ := h
    obtain ⟨v_p, v_sm, rfl, d_p, d_sm⟩ := args2 hd
    obtain rfl := dp_int d_p
    refine ⟨_, (pss_one (ps_ret (pe_and (pe_cmpR op_le (pe_callB (cl_len (K := K) rfl) (by rfl) T.z_len PySem.boot_len (pa_cons (pv 1) pa_nil)) (pe_gi (by rfl) T.c_MOST) (nomark _)) (pe_one (pe_callB (cl_all (K := K) rfl rfl) (by rfl) T.z_all (by decide +kernel) (pa_cons (pe_lc (own := [("number", 2)]) (g := gName 2) (tt := tYes) rfl sc_are_numbers.nd (pi_list (pv 1)) (blkOk_by (own := [("number", 2)]) (N := N_are_numbers) (sc := defScope s_are_numbers) (by decide +kernel)) (fun _ _ _ _ _ => pg_name (i := 2) sc_are_numbers.nd rfl (Or.inl rfl)) (fun _ _ _ _ _ => pts_nil) (fun _ _ _ _ _ => (pe_chain op_le op_lt pe_int (pv 2) (pv 0)))) pa_nil)))))), ?_⟩
    rw [show start N_are_numbers [.int p, v_sm] = [some (.int p), some v_sm, none] from rfl]
    refine s_ret (v := .bl (areNums p sm)) ?_ (fun H2 e2 => q H2 (by walk_at "ex"))
    unfold areNums
    refine ev_andV (by walk_at "ev") (fun _ => ?_)
    refine ev_allN ?_
    rw [List.map_map]
    refine el_li (fun x => V.bl (decide (0 ≤ x) && decide (x < p))) (by walk_at "ed") hl (fun _ => rfl) (fun x H1 e1 hx => ?_)
    walk_at "ev"
local macro_rules | `(tactic| walk_at "cv") => `(tactic| focus ((with_reducible show F_are_numbers _ _); refine ⟨_, _, rfl, ?_, rfl⟩ <;> walk_at "sd"))
def F_ask_row (ds : List PyData) (v : V) : Prop := ∃ (p : Int) (row : List Int), ds = [.int p, dl row] ∧ (isPrime p = true) ∧ (areNums p row = true) ∧ v = .non
theorem ok_ask_row (T : Txt K mg er) : DefOk P w K mg base CX0 3 "ask_row" ["p", "row"] (spF K F_ask_row) := by
  refine T.d_ask_row.ok sc_ask_row (fun vs H Q E h => ?_) (fun f cdv A outer s H vs Q E hr h => ?_)
  · obtain ⟨ds, v, hd, ⟨p, row, rfl, _⟩, _⟩ := h
    exact dpAll_len hd
  · obtain ⟨ds, v, hd, ⟨p, row, rfl, hp, hn, rfl⟩, q⟩ := h
    obtain ⟨v_p, v_row, rfl, d_p, d_row⟩ := args2 hd
    obtain rfl := dp_int d_p
    have D_ask_prime := ok_ask_prime (P := P) (w := w) (base := base) T
    have D_are_numbers := ok_are_numbers (P := P) (w := w) (base := base) T
    refine ⟨_, (pss_cons (ps_expr (pe_cd D_ask_prime (hr.mono (by omega)) (by rfl) (pa_cons (pv 0) pa_nil)))
      (pss_one (ps_if (pt_not (pt_val (pe_cd D_are_numbers (hr.mono (by omega)) (by rfl) (pa_cons (pv 0) (pa_cons (pv 1) pa_nil)))))
      (pss_one ps_never)
      pss_nil))), ?_⟩
    rw [show start N_ask_row [.int p, v_row] = [some (.int p), some v_row] from rfl]
    have hl : row.length ≤ 40000 := by
      unfold areNums at hn
      rw [Bool.and_eq_true, decide_eq_true_eq] at hn
      omega
    refine q_drop (by walk_at "ev") fun H1 e1 => ?_
    refine s_when (b := !(areNums p row)) (by walk_at "et") (fun hb H2 e2 => ?_) (fun hb H2 e2 => q H2 (by walk_at "ex"))
    rw [hn] at hb
    cases hb
local macro_rules | `(tactic| walk_at "cv") => `(tactic| focus ((with_reducible show F_ask_row _ _); refine ⟨_, _, rfl, ?_, ?_, rfl⟩ <;> walk_at "sd"))
def E_ask_row (ds : List PyData) (i : Nat) : Prop := ∃ (p : Int) (row : List Int), ds = [.int p, dl row] ∧ (row.length ≤ 40000) ∧ ((isPrime p = false ∧ i = 0) ∨ (isPrime p = true ∧ areNums p row = false ∧ i = 1))
theorem okX_ask_row (T : Txt K mg er) : DefX P w K mg base 3 "ask_row" ["p", "row"] (spE K er E_ask_row) := by
  refine T.d_ask_row.okX sc_ask_row (fun vs H Q E h => ?_) (fun f cdv A outer s H vs Q E hr h => ?_)
  · obtain ⟨ds, i, hd, ⟨p, row, rfl, _⟩, _⟩ := h
    exact dpAll_len hd
  · obtain ⟨ds, i, hd, ⟨p, row, rfl, hl, hR⟩, hi, q⟩ := h
    obtain ⟨v_p, v_row, rfl, d_p, d_row⟩ := args2 hd
    obtain rfl := dp_int d_p
    have D_ask_prime := ok_ask_prime (P := P) (w := w) (base := base) T
    have D_are_numbers := ok_are_numbers (P := P) (w := w) (base := base) T
    have DX_ask_prime := okX_ask_prime (P := P) (w := w) (base := base) T
    rcases hR with ⟨hp, rfl⟩ | ⟨hp, hn, rfl⟩
    · refine ⟨_, (pss_cons (ps_expr (pe_cdx DX_ask_prime (hr.mono (by omega)) (by rfl) (takes_of rfl rfl rfl rfl) (pa_cons (pv 0) pa_nil)))
      pss_never), ?_⟩
      rw [show start N_ask_row [.int p, v_row] = [some (.int p), some v_row] from rfl]
      exact q_dropX (i := 0) (by walk_at "eda") ⟨p, rfl, hp, rfl⟩ hi fun H1 e1 => q H1 e1
    · refine ⟨_, (pss_cons (ps_expr (pe_cd D_ask_prime (hr.mono (by omega)) (by rfl) (pa_cons (pv 0) pa_nil)))
      (pss_cons (ps_if (pt_not (pt_val (pe_cd D_are_numbers (hr.mono (by omega)) (by rfl) (pa_cons (pv 0) (pa_cons (pv 1) pa_nil)))))
      (pss_one (ps_raiseE rfl (takes_of rfl rfl rfl rfl) T.err (show 1 < 7 by decide) T.err.g1 (by rfl)))
      pss_nil)
      pss_never)), ?_⟩
      rw [show start N_ask_row [.int p, v_row] = [some (.int p), some v_row] from rfl]
      refine q_drop (by walk_at "ev") fun H1 e1 => ?_
      refine q_when (b := !(areNums p row)) (by walk_at "et") (fun hb H2 e2 => ?_) (fun hb H2 e2 => ?_)
      · exact q H2 (by walk_at "ex")
      · rw [hn] at hb
        cases hb
theorem okN_ask_row (T : Txt K mg er) : DefXN P w K mg base 3 "ask_row" ["p", "row"] (spE K er E_ask_row) := by
  refine T.d_ask_row.okXN sc_ask_row (fun vs H Q E h => ?_) (fun f cdv A outer s H vs Q E hr h => ?_)
  · obtain ⟨ds, i, hd, ⟨p, row, rfl, _⟩, _⟩ := h
    exact dpAll_len hd
  · obtain ⟨ds, i, hd, ⟨p, row, rfl, hl, hR⟩, hi, q⟩ := h
    obtain ⟨v_p, v_row, rfl, d_p, d_row⟩ := args2 hd
    obtain rfl := dp_int d_p
    have D_ask_prime := ok_ask_prime (P := P) (w := w) (base := base) T
    have D_are_numbers := ok_are_numbers (P := P) (w := w) (base := base) T
    have DN_ask_prime := okN_ask_prime (P := P) (w := w) (base := base) T
    rcases hR with ⟨hp, rfl⟩ | ⟨hp, hn, rfl⟩
    · refine ⟨_, (pss_cons (ps_expr (pe_cdn DN_ask_prime (hr.mono (by omega)) (by rfl) (L2N.takes_of rfl rfl rfl rfl) (pa_cons (pv 0) pa_nil)))
      pss_never), ?_⟩
      rw [show start N_ask_row [.int p, v_row] = [some (.int p), some v_row] from rfl]
      exact q_dropX (i := 0) (by walk_at "eda") ⟨p, rfl, hp, rfl⟩ hi fun H1 e1 => q H1 e1
    · refine ⟨_, (pss_cons (ps_expr (pe_cd D_ask_prime (hr.mono (by omega)) (by rfl) (pa_cons (pv 0) pa_nil)))
      (pss_cons (ps_if (pt_not (pt_val (pe_cd D_are_numbers (hr.mono (by omega)) (by rfl) (pa_cons (pv 0) (pa_cons (pv 1) pa_nil)))))
      (pss_one (ps_raiseN rfl (L2N.takes_of rfl rfl rfl rfl) T.err (show 1 < 7 by decide) T.err.g1 (by rfl)))
      pss_nil)
      pss_never)), ?_⟩
      rw [show start N_ask_row [.int p, v_row] = [some (.int p), some v_row] from rfl]
      refine q_drop (by walk_at "ev") fun H1 e1 => ?_
      refine q_when (b := !(areNums p row)) (by walk_at "et") (fun hb H2 e2 => ?_) (fun hb H2 e2 => ?_)
      · exact q H2 (by walk_at "ex")
      · rw [hn] at hb
        cases hb
theorem ok_read (T : Txt K mg er) : DefOk P w K mg base CX0 4 "read" ["text"] (sp_read K) := by
  refine T.d_read.ok sc_read (fun vs H Q E h => ?_) (fun f cdv A outer s H vs Q E hr h => ?_)
  · obtain ⟨p, row, hd, _⟩ := h
    exact dpAll_len hd
  · obtain ⟨p, row, hd, hp, hn, hl, q⟩ := h
    obtain ⟨v_text, rfl, d_text⟩ := args1 hd
    obtain rfl := dp_str d_text
    have hpl := primes_le p hp
    have hpr := primes_prime p hp
    have har := areNums_of hl hn
    have D_number_of := ok_number_of (P := P) (w := w) (base := base) T
    have D_ask_row := ok_ask_row (P := P) (w := w) (base := base) T
    refine ⟨_, (pss_cons (ps_set (i := 1) sc_read.nd rfl (.inl rfl) (pe_splitS (pv 0) pe_str))
      (pss_cons (ps_if (PW.pt (pw_or (pt_cmpR op_ne (pe_callB (cl_len (K := K) rfl) (by rfl) T.z_len PySem.boot_len (pa_cons (pv 1) pa_nil)) pe_int (nomark _)) (pw_or1 (PW.pt (pw_and (pt_cmpR op_ne (pe_ix (ixL (K := K) rfl) (pv 1) pe_int (fun _ _ => rfl)) pe_str (nomark _)) (pw_and1 (pt_cmpR op_ne (pe_ix ix_str (pe_ix (ixL (K := K) rfl) (pv 1) pe_int (fun _ _ => rfl)) pe_int (fun _ _ => rfl)) pe_str (nomark _))))))))
      (pss_one ps_never)
      pss_nil)
      (pss_cons (ps_set (i := 2) sc_read.nd rfl (.inl rfl) (pe_cd D_number_of (hr.mono (by omega)) (by rfl) (pa_cons (pe_ix (ixL (K := K) rfl) (pv 1) pe_int (fun _ _ => rfl)) pa_nil)))
      (pss_cons (ps_setLc (i := 3) (own := [("word", 4)]) (g := gName 4) (tt := tYes) rfl sc_read.nd rfl rfl (sw_true rfl rfl rfl (by decide +kernel)) (pi_list (pe_slice (slL (K := K) rfl) (pe_splitS (pe_ix (ixL (K := K) rfl) (pv 1) pe_int (fun _ _ => rfl)) pe_str) (po_some pe_int) po_none)) (blkOk_by (own := [("word", 4)]) (N := N_read) (sc := defScope s_read) (by decide +kernel)) (fun _ _ _ _ _ => pg_name (i := 4) sc_read.nd rfl (Or.inl rfl)) (fun _ _ _ _ _ => pts_nil) (fun _ _ _ _ _ => (pe_cd D_number_of (hr.mono (by omega)) (by rfl) (pa_cons (pv 4) pa_nil))))
      (pss_cons (ps_try_thru0 (pss_one (ps_expr (pe_cd D_ask_row (hr.mono (by omega)) (by rfl) (pa_cons (pv 2) (pa_cons (pv 3) pa_nil))))))
      (pss_one (ps_ret (pe_tup (pa_cons (pv 2) (pa_cons (pv 3) pa_nil)))))))))), ?_⟩
    rw [show start N_read [.str (noteOf p row)] = [some (.str (noteOf p row)), none, none, none, none] from rfl]
    have nl := note_len (p := p) (by omega) hn hpl.2
    have rl := rest_len hn hpl.2
    have ns := note_split (p := p) (by omega) hn
    have rs := rest_split hn
    have rt := rest_tl row
    have w0 : IsW (word p) p := isW_word (by omega) (by omega)
    refine q_asgL (xs := [word p, restOf row].map V.str) (by rw [← ns]; exact el_splitS (by walk_at "ev") (by walk_at "ev") (by decide) (by omega)) fun g H1 hg e1 h1 => ?_
    have dg : Dp K H1 (.ref g) (.list [.str (word p), .str (restOf row)]) := dp_ds (ws := [word p, restOf row]) h1
    generalize restOf row = rest at *
    have hix : ∀ {H' σ}, Ex H1 H' → σ[1]? = some (some (V.ref g)) → Ev (tOp (rIxL K) (tVar 1) (tC (.int 1))) σ H' (.str rest) := fun {H' σ} e hσ => ev_ofS (ed_ix (ds := [.str (word p), .str rest]) (i := 1) (evd_v (ev_var hσ) (dpx e dg)) (by walk_at "ev") (by omega) rfl)
    have hfirst : rest ≠ "" → ∃ r, rest.cps.toList = 32 :: r := fun hne => by
      cases row with
      | nil =>
        refine absurd (TL.ext_tl ?_) hne
        rw [rt, tl_none] <;> rfl
      | cons x xs => exact ⟨_, rt.trans (by rw [List.map_cons, List.flatten_cons, List.cons_append])⟩
    refine q_when (b := !decide ((2 : Int) = 2) || (!decide (rest = "") && false)) (et_or (et_test (ev_op (ev_lenDD (ds := [.str (word p), .str rest]) (by walk_at "ed")) (by walk_at "ev") rv_neI)) (fun _ => et_and (et_test (ev_op (hix (Ex.refl H1) rfl) (by walk_at "ev") rv_neS)) (fun hb => ?_))) (fun hb H2 e2 => ?_) (fun hb H2 e2 => ?_)
    · have hne : rest ≠ "" := by simpa using hb
      obtain ⟨r, hr2⟩ := hfirst hne
      refine et_test (ev_is (ev_op (ev_sixS (hix (Ex.refl H1) rfl) (by walk_at "ev") (by omega) hr2) (by walk_at "ev") rv_neS) ?_)
      decide +kernel
    · simp at hb
    have hix0 : Ev (tOp (rIxL K) (tVar 1) (tC (.int 0))) [some (.str (noteOf p row)), some (.ref g), none, none, none] H2 (.str (word p)) := ev_ofS (ed_ix (ds := [.str (word p), .str rest]) (i := 0) (evd_v (ev_var rfl) (dpx e2 dg)) (by walk_at "ev") (by omega) rfl)
    refine q_asg (i := 2) (v := .int p) (ev_cd (ds := [.str (word p)]) (evd_cons (evd_s hix0) (by walk_at "eda")) ⟨word p, p, rfl, w0, rfl⟩) fun H3 e3 => ?_
    have hsl : EvL (tSl (rSlL K) (tM1 rSplitS (tOp (rIxL K) (tVar 1) (tC (.int 1))) (tC (.str " "))) (tPart (tC (.int 1))) tNoPart) [some (.str (noteOf p row)), some (.ref g), some (.int p), none, none] H3 ((row.map word).map V.str) := fun H4 e4 Q q => (show EvL (tM1 rSplitS (tOp (rIxL K) (tVar 1) (tC (.int 1))) (tC (.str " "))) [some (.str (noteOf p row)), some (.ref g), some (.int p), none, none] H3 ((PySem.Str.empty :: row.map word).map V.str) from by rw [← rs]; exact el_splitS (hix (e2.trans e3) rfl) (by walk_at "ev") (by decide) (by omega)) H4 e4 _ fun b H5 hb e5 h5 => by
      refine (show EvO (tPart (tC (.int 1))) [some (.str (noteOf p row)), some (.ref g), some (.int p), none, none] H3 (some 1) from by walk_at "eo") H5 (e4.trans e5) _ fun H6 e6 => ?_
      refine ⟨b, _, rfl, sq_of (e6 _ _ h5), fun c hc => ?_⟩
      refine q c _ (fresh_back (e5.trans e6) hc) ((e5.trans e6).trans (Ex.new hc)) ?_
      rw [upd_same]
      congr 2
      unfold cutV HT.sIx
      simp
      exact List.take_of_length_le (by rw [List.length_map]; exact Nat.le_refl _)
    have grow : given ((row.map word).map V.str).length (fun _ => true) (fun i => V.int (gi row (i : Int))) = row.map V.int := by
      rw [given_all, List.length_map, List.length_map]
      refine List.ext_getElem (by simp) fun i h1 h2 => ?_
      have h5 : i < row.length := by simpa using h2
      rw [List.getElem_map, List.getElem_map, List.getElem_range, gi_lt h5]
    refine q_asgL (xs := row.map V.int) (by
      rw [← grow]
      refine el_lcNL (fun _ => true) (fun i => V.int (gi row (i : Int))) hsl (by rw [List.length_map, List.length_map]; omega) (fun _ => rfl) (fun _ _ _ _ _ => et_yes) (fun i x H4 e4 hx _ => ?_)
      rw [List.getElem?_map, List.getElem?_map] at hx
      obtain ⟨n, hn1, rfl⟩ : ∃ n, row[i]? = some n ∧ x = V.str (word n) := by
        cases h : row[i]? with
        | none =>
          rw [h] at hx
          cases hx
        | some n =>
          rw [h] at hx
          exact ⟨n, rfl, (Option.some.inj hx).symm⟩
      obtain ⟨hi, hx2⟩ := List.getElem?_eq_some_iff.mp hn1
      have hx3 : gi row (i : Int) = n := by rw [gi_lt hi, hx2]
      rw [hx3]
      have hb := hn n (List.mem_of_getElem? hn1)
      exact ev_cd (ds := [.str (word n)]) (by walk_at "eda") ⟨word n, n, rfl, isW_word hb.1 (by omega), rfl⟩) fun f2 H4 hf e4 h4 => ?_
    refine q_drop (by walk_at "ev") fun H5 e5 => ?_
    refine s_retT (by walk_at "ea") (by show 2 ≤ 100000; decide) fun a H6 ha e6 h6 => ?_
    exact q a f2 H6 (fresh_back (H' := H3) (by walk_at "ex") hf) (by walk_at "ex") h6 (by walk_at "at")
def E_read (ds : List PyData) (i : Nat) : Prop := ∃ (text : PySem.Str), ds = [.str text] ∧ (Bad text ∧ i = 6)
theorem okX_read (T : Txt K mg er) : DefX P w K mg base 4 "read" ["text"] (spE K er E_read) := by
  refine T.d_read.okX sc_read (fun vs H Q E h => ?_) (fun f cdv A outer s H vs Q E hr h => ?_)
  · obtain ⟨ds, i, hd, ⟨text, rfl, _⟩, _⟩ := h
    exact dpAll_len hd
  · obtain ⟨ds, i, hd, ⟨text, rfl, hR⟩, hi, q⟩ := h
    obtain ⟨v_text, rfl, d_text⟩ := args1 hd
    obtain rfl := dp_str d_text
    have D_number_of := ok_number_of (P := P) (w := w) (base := base) T
    have D_ask_row := ok_ask_row (P := P) (w := w) (base := base) T
    have DX_number_of := okX_number_of (P := P) (w := w) (base := base) T
    have DX_ask_row := okX_ask_row (P := P) (w := w) (base := base) T
    obtain ⟨hbad, rfl⟩ := hR
    have DN_ask_row := okN_ask_row (P := P) (w := w) (base := base) T
    cases hbad with
    | parts hl h hm =>
      refine ⟨_, (pss_cons (ps_set (i := 1) sc_read.nd rfl (.inl rfl) (pe_splitS (pv 0) pe_str))
      (pss_cons (ps_if (PW.pt (pw_or (pt_cmpR op_ne (pe_callB (cl_len (K := K) rfl) (by rfl) T.z_len PySem.boot_len (pa_cons (pv 1) pa_nil)) pe_int (nomark _)) (pw_or1 (PW.pt (pw_and (pt_cmpR op_ne (pe_ix (ixL (K := K) rfl) (pv 1) pe_int (fun _ _ => rfl)) pe_str (nomark _)) (pw_and1 (pt_cmpR op_ne (pe_ix ix_str (pe_ix (ixL (K := K) rfl) (pv 1) pe_int (fun _ _ => rfl)) pe_int (fun _ _ => rfl)) pe_str (nomark _))))))))
      (pss_one (ps_raiseE rfl (takes_of rfl rfl rfl rfl) T.err (show 6 < 7 by decide) T.err.g6 (by rfl)))
      pss_nil)
      pss_never)), ?_⟩
      rw [show start N_read [.str text] = [some (.str text), none, none, none, none] from rfl]
      generalize hparts : PySem.Txt.split text ":" = parts at h hm
      refine q_asgL (xs := parts.map V.str) (by rw [← hparts]; exact el_splitS (by walk_at "ev") (by walk_at "ev") (by decide) (by omega)) fun g H1 hg e1 h1 => ?_
      have dg : Dp K H1 (.ref g) (.list (parts.map PyData.str)) := dp_ds h1
      have hne : ¬ (((parts.map PyData.str).length : Nat) : Int) = 2 := by
        rw [List.length_map]
        omega
      refine q_when (b := !decide ((((parts.map PyData.str).length : Nat) : Int) = 2) || false) (et_or (et_test (ev_op (ev_lenDD (by walk_at "ed")) (by walk_at "ev") rv_neI)) (fun hb => ?_)) (fun hb H2 e2 => q H2 (by walk_at "ex")) (fun hb H2 e2 => ?_)
      · rw [decide_eq_false hne] at hb
        cases hb
      · rw [decide_eq_false hne] at hb
        cases hb
    | blank w0 r hl h c t hrc hc hrl =>
      refine ⟨_, (pss_cons (ps_set (i := 1) sc_read.nd rfl (.inl rfl) (pe_splitS (pv 0) pe_str))
      (pss_cons (ps_if (PW.pt (pw_or (pt_cmpR op_ne (pe_callB (cl_len (K := K) rfl) (by rfl) T.z_len PySem.boot_len (pa_cons (pv 1) pa_nil)) pe_int (nomark _)) (pw_or1 (PW.pt (pw_and (pt_cmpR op_ne (pe_ix (ixL (K := K) rfl) (pv 1) pe_int (fun _ _ => rfl)) pe_str (nomark _)) (pw_and1 (pt_cmpR op_ne (pe_ix ix_str (pe_ix (ixL (K := K) rfl) (pv 1) pe_int (fun _ _ => rfl)) pe_int (fun _ _ => rfl)) pe_str (nomark _))))))))
      (pss_one (ps_raiseE rfl (takes_of rfl rfl rfl rfl) T.err (show 6 < 7 by decide) T.err.g6 (by rfl)))
      pss_nil)
      pss_never)), ?_⟩
      rw [show start N_read [.str text] = [some (.str text), none, none, none, none] from rfl]
      refine q_asgL (xs := [w0, r].map V.str) (by rw [← h]; exact el_splitS (by walk_at "ev") (by walk_at "ev") (by decide) (by omega)) fun g H1 hg e1 h1 => ?_
      have dg : Dp K H1 (.ref g) (.list [.str w0, .str r]) := dp_ds (ws := [w0, r]) h1
      have hix : ∀ {H' σ}, Ex H1 H' → σ[1]? = some (some (V.ref g)) → Ev (tOp (rIxL K) (tVar 1) (tC (.int 1))) σ H' (.str r) := fun {H' σ} e hσ => ev_ofS (ed_ix (ds := [.str w0, .str r]) (i := 1) (evd_v (ev_var hσ) (dpx e dg)) (by walk_at "ev") (by omega) rfl)
      have hre : ¬ r = "" := fun z => by
        subst z
        rw [show ("" : PySem.Str).cps.toList = [] by decide] at hrc
        cases hrc
      have hsg : ¬ (⟨#[c]⟩ : PySem.Str) = " " := fun z => by
        have h3 := congrArg TL.tl z
        have h4 : [c] = [32] := h3.trans (by decide)
        exact hc (List.head_eq_of_cons_eq h4)
      refine q_when (b := !decide ((2 : Int) = 2) || (!decide (r = "") && !decide ((⟨#[c]⟩ : PySem.Str) = " "))) (et_or (et_test (ev_op (ev_lenDD (ds := [.str w0, .str r]) (by walk_at "ed")) (by walk_at "ev") rv_neI)) (fun _ => et_and (et_test (ev_op (hix (Ex.refl H1) rfl) (by walk_at "ev") rv_neS)) (fun _ => et_test (ev_op (ev_sixS (hix (Ex.refl H1) rfl) (by walk_at "ev") (by omega) hrc) (by walk_at "ev") rv_neS)))) (fun hb H2 e2 => q H2 (by walk_at "ex")) (fun hb H2 e2 => ?_)
      rw [decide_eq_false hre, decide_eq_false hsg] at hb
      simp at hb
    | prime w0 r hl h hor hrl hw =>
      refine ⟨_, (pss_cons (ps_set (i := 1) sc_read.nd rfl (.inl rfl) (pe_splitS (pv 0) pe_str))
      (pss_cons (ps_if (PW.pt (pw_or (pt_cmpR op_ne (pe_callB (cl_len (K := K) rfl) (by rfl) T.z_len PySem.boot_len (pa_cons (pv 1) pa_nil)) pe_int (nomark _)) (pw_or1 (PW.pt (pw_and (pt_cmpR op_ne (pe_ix (ixL (K := K) rfl) (pv 1) pe_int (fun _ _ => rfl)) pe_str (nomark _)) (pw_and1 (pt_cmpR op_ne (pe_ix ix_str (pe_ix (ixL (K := K) rfl) (pv 1) pe_int (fun _ _ => rfl)) pe_int (fun _ _ => rfl)) pe_str (nomark _))))))))
      (pss_one ps_never)
      pss_nil)
      (pss_cons (ps_set (i := 2) sc_read.nd rfl (.inl rfl) (pe_cdx DX_number_of (hr.mono (by omega)) (by rfl) (takes_of rfl rfl rfl rfl) (pa_cons (pe_ix (ixL (K := K) rfl) (pv 1) pe_int (fun _ _ => rfl)) pa_nil)))
      pss_never))), ?_⟩
      rw [show start N_read [.str text] = [some (.str text), none, none, none, none] from rfl]
      refine q_asgL (xs := [w0, r].map V.str) (by rw [← h]; exact el_splitS (by walk_at "ev") (by walk_at "ev") (by decide) (by omega)) fun g H1 hg e1 h1 => ?_
      have dg : Dp K H1 (.ref g) (.list [.str w0, .str r]) := dp_ds (ws := [w0, r]) h1
      have hix : ∀ {H' σ}, Ex H1 H' → σ[1]? = some (some (V.ref g)) → Ev (tOp (rIxL K) (tVar 1) (tC (.int 1))) σ H' (.str r) := fun {H' σ} e hσ => ev_ofS (ed_ix (ds := [.str w0, .str r]) (i := 1) (evd_v (ev_var hσ) (dpx e dg)) (by walk_at "ev") (by omega) rfl)
      refine q_when (b := !decide ((2 : Int) = 2) || (!decide (r = "") && false)) (et_or (et_test (ev_op (ev_lenDD (ds := [.str w0, .str r]) (by walk_at "ed")) (by walk_at "ev") rv_neI)) (fun _ => et_and (et_test (ev_op (hix (Ex.refl H1) rfl) (by walk_at "ev") rv_neS)) (fun hb => ?_))) (fun hb H2 e2 => ?_) (fun hb H2 e2 => ?_)
      · have hne : r ≠ "" := by simpa using hb
        obtain ⟨t, hr2⟩ := hor.resolve_left hne
        refine et_test (ev_is (ev_op (ev_sixS (hix (Ex.refl H1) rfl) (by walk_at "ev") (by omega) hr2) (by walk_at "ev") rv_neS) ?_)
        decide +kernel
      · simp at hb
      have hix0 : Ev (tOp (rIxL K) (tVar 1) (tC (.int 0))) [some (.str text), some (.ref g), none, none, none] H2 (.str w0) := ev_ofS (ed_ix (ds := [.str w0, .str r]) (i := 0) (evd_v (ev_var rfl) (dpx e2 dg)) (by walk_at "ev") (by omega) rfl)
      exact q_asgN (w := w0) (evd_cons (evd_s hix0) (by walk_at "eda")) hw fun H3 e3 => q H3 (by walk_at "ex")
    | word w0 r hl h hor hrl p hw e ws h2 hk j hj hgs v hv hbv =>
      refine ⟨_, (pss_cons (ps_set (i := 1) sc_read.nd rfl (.inl rfl) (pe_splitS (pv 0) pe_str))
      (pss_cons (ps_if (PW.pt (pw_or (pt_cmpR op_ne (pe_callB (cl_len (K := K) rfl) (by rfl) T.z_len PySem.boot_len (pa_cons (pv 1) pa_nil)) pe_int (nomark _)) (pw_or1 (PW.pt (pw_and (pt_cmpR op_ne (pe_ix (ixL (K := K) rfl) (pv 1) pe_int (fun _ _ => rfl)) pe_str (nomark _)) (pw_and1 (pt_cmpR op_ne (pe_ix ix_str (pe_ix (ixL (K := K) rfl) (pv 1) pe_int (fun _ _ => rfl)) pe_int (fun _ _ => rfl)) pe_str (nomark _))))))))
      (pss_one ps_never)
      pss_nil)
      (pss_cons (ps_set (i := 2) sc_read.nd rfl (.inl rfl) (pe_cd D_number_of (hr.mono (by omega)) (by rfl) (pa_cons (pe_ix (ixL (K := K) rfl) (pv 1) pe_int (fun _ _ => rfl)) pa_nil)))
      (pss_cons (ps_lcX (own := [("word", 4)]) (i := 4) rfl sc_read.nd rfl rfl (takes_of rfl rfl rfl rfl) (sw_true rfl rfl rfl (by decide +kernel)) (pi_list (pe_slice (slL (K := K) rfl) (pe_splitS (pe_ix (ixL (K := K) rfl) (pv 1) pe_int (fun _ _ => rfl)) pe_str) (po_some pe_int) po_none)) (blkOk_by (own := [("word", 4)]) (N := N_read) (sc := defScope s_read) (by decide +kernel)) (fun _ _ _ _ _ => pg_name (i := 4) sc_read.nd rfl (Or.inl rfl)) (fun _ _ _ _ _ => (pe_cdB DX_number_of (hr.mono (by omega)) (by rfl) (pa_cons (pv 4) pa_nil))))
      pss_never)))), ?_⟩
      rw [show start N_read [.str text] = [some (.str text), none, none, none, none] from rfl]
      refine q_asgL (xs := [w0, r].map V.str) (by rw [← h]; exact el_splitS (by walk_at "ev") (by walk_at "ev") (by decide) (by omega)) fun g H1 hg e1 h1 => ?_
      have dg : Dp K H1 (.ref g) (.list [.str w0, .str r]) := dp_ds (ws := [w0, r]) h1
      have hix : ∀ {H' σ}, Ex H1 H' → σ[1]? = some (some (V.ref g)) → Ev (tOp (rIxL K) (tVar 1) (tC (.int 1))) σ H' (.str r) := fun {H' σ} e hσ => ev_ofS (ed_ix (ds := [.str w0, .str r]) (i := 1) (evd_v (ev_var hσ) (dpx e dg)) (by walk_at "ev") (by omega) rfl)
      refine q_when (b := !decide ((2 : Int) = 2) || (!decide (r = "") && false)) (et_or (et_test (ev_op (ev_lenDD (ds := [.str w0, .str r]) (by walk_at "ed")) (by walk_at "ev") rv_neI)) (fun _ => et_and (et_test (ev_op (hix (Ex.refl H1) rfl) (by walk_at "ev") rv_neS)) (fun hb => ?_))) (fun hb H2 e2 => ?_) (fun hb H2 e2 => ?_)
      · have hne : r ≠ "" := by simpa using hb
        obtain ⟨t, hr2⟩ := hor.resolve_left hne
        refine et_test (ev_is (ev_op (ev_sixS (hix (Ex.refl H1) rfl) (by walk_at "ev") (by omega) hr2) (by walk_at "ev") rv_neS) ?_)
        decide +kernel
      · simp at hb
      have hix0 : Ev (tOp (rIxL K) (tVar 1) (tC (.int 0))) [some (.str text), some (.ref g), none, none, none] H2 (.str w0) := ev_ofS (ed_ix (ds := [.str w0, .str r]) (i := 0) (evd_v (ev_var rfl) (dpx e2 dg)) (by walk_at "ev") (by omega) rfl)
      refine q_asg (i := 2) (v := .int p) (ev_cd (ds := [.str w0]) (evd_cons (evd_s hix0) (by walk_at "eda")) ⟨w0, p, rfl, hw, rfl⟩) fun H3 e3 => ?_
      have hsl : EvL (tSl (rSlL K) (tM1 rSplitS (tOp (rIxL K) (tVar 1) (tC (.int 1))) (tC (.str " "))) (tPart (tC (.int 1))) tNoPart) [some (.str text), some (.ref g), some (.int p), none, none] H3 (ws.map V.str) := fun H4 e4 Q q => (show EvL (tM1 rSplitS (tOp (rIxL K) (tVar 1) (tC (.int 1))) (tC (.str " "))) [some (.str text), some (.ref g), some (.int p), none, none] H3 ((e :: ws).map V.str) from by rw [← h2]; exact el_splitS (hix (e2.trans e3) rfl) (by walk_at "ev") (by decide) (by omega)) H4 e4 _ fun b H5 hb e5 h5 => by
        refine (show EvO (tPart (tC (.int 1))) [some (.str text), some (.ref g), some (.int p), none, none] H3 (some 1) from by walk_at "eo") H5 (e4.trans e5) _ fun H6 e6 => ?_
        refine ⟨b, _, rfl, sq_of (e6 _ _ h5), fun c hc => ?_⟩
        refine q c _ (fresh_back (e5.trans e6) hc) ((e5.trans e6).trans (Ex.new hc)) ?_
        rw [upd_same]
        congr 2
        unfold cutV HT.sIx
        simp
        exact List.take_of_length_le (by rw [List.length_map]; exact Nat.le_refl _)
      exact lcN hsl (by omega) (fun _ => rfl) (fun u H4 => evd_cons (evd_s (ev_var rfl)) evd_nil) hj hgs hv hbv fun H4 e4 => q H4 (by walk_at "ex")
    | row w0 r hl h hor hrl p hw e ws h2 hk ns hn hgs i hi2 =>
      refine ⟨_, (pss_cons (ps_set (i := 1) sc_read.nd rfl (.inl rfl) (pe_splitS (pv 0) pe_str))
      (pss_cons (ps_if (PW.pt (pw_or (pt_cmpR op_ne (pe_callB (cl_len (K := K) rfl) (by rfl) T.z_len PySem.boot_len (pa_cons (pv 1) pa_nil)) pe_int (nomark _)) (pw_or1 (PW.pt (pw_and (pt_cmpR op_ne (pe_ix (ixL (K := K) rfl) (pv 1) pe_int (fun _ _ => rfl)) pe_str (nomark _)) (pw_and1 (pt_cmpR op_ne (pe_ix ix_str (pe_ix (ixL (K := K) rfl) (pv 1) pe_int (fun _ _ => rfl)) pe_int (fun _ _ => rfl)) pe_str (nomark _))))))))
      (pss_one ps_never)
      pss_nil)
      (pss_cons (ps_set (i := 2) sc_read.nd rfl (.inl rfl) (pe_cd D_number_of (hr.mono (by omega)) (by rfl) (pa_cons (pe_ix (ixL (K := K) rfl) (pv 1) pe_int (fun _ _ => rfl)) pa_nil)))
      (pss_cons (ps_setLc (i := 3) (own := [("word", 4)]) (g := gName 4) (tt := tYes) rfl sc_read.nd rfl rfl (sw_true rfl rfl rfl (by decide +kernel)) (pi_list (pe_slice (slL (K := K) rfl) (pe_splitS (pe_ix (ixL (K := K) rfl) (pv 1) pe_int (fun _ _ => rfl)) pe_str) (po_some pe_int) po_none)) (blkOk_by (own := [("word", 4)]) (N := N_read) (sc := defScope s_read) (by decide +kernel)) (fun _ _ _ _ _ => pg_name (i := 4) sc_read.nd rfl (Or.inl rfl)) (fun _ _ _ _ _ => pts_nil) (fun _ _ _ _ _ => (pe_cd D_number_of (hr.mono (by omega)) (by rfl) (pa_cons (pv 4) pa_nil))))
      (pss_cons (ps_tryP rfl rfl ⟨by rfl, by decide, .inl T.err.g0⟩ ⟨by rfl, by decide, .inl T.err.g1⟩ (fun hd => L2H.passesAt_of rfl hd) (takes_of rfl rfl rfl rfl) (fun W pn xe tk => (pss_one (ps_expr (pe_cdn DN_ask_row (hr.mono (by omega)) (by rfl) tk (pa_cons (pv 2) (pa_cons (pv 3) pa_nil))))))
      (fun a oe cls d pn tkS hot => (pss_one (ps_raiseHot hot tkS T.err (show 6 < 7 by decide) T.err.g6 (by rfl)))))
      pss_never))))), ?_⟩
      rw [show start N_read [.str text] = [some (.str text), none, none, none, none] from rfl]
      refine q_asgL (xs := [w0, r].map V.str) (by rw [← h]; exact el_splitS (by walk_at "ev") (by walk_at "ev") (by decide) (by omega)) fun g H1 hg e1 h1 => ?_
      have dg : Dp K H1 (.ref g) (.list [.str w0, .str r]) := dp_ds (ws := [w0, r]) h1
      have hix : ∀ {H' σ}, Ex H1 H' → σ[1]? = some (some (V.ref g)) → Ev (tOp (rIxL K) (tVar 1) (tC (.int 1))) σ H' (.str r) := fun {H' σ} e hσ => ev_ofS (ed_ix (ds := [.str w0, .str r]) (i := 1) (evd_v (ev_var hσ) (dpx e dg)) (by walk_at "ev") (by omega) rfl)
      refine q_when (b := !decide ((2 : Int) = 2) || (!decide (r = "") && false)) (et_or (et_test (ev_op (ev_lenDD (ds := [.str w0, .str r]) (by walk_at "ed")) (by walk_at "ev") rv_neI)) (fun _ => et_and (et_test (ev_op (hix (Ex.refl H1) rfl) (by walk_at "ev") rv_neS)) (fun hb => ?_))) (fun hb H2 e2 => ?_) (fun hb H2 e2 => ?_)
      · have hne : r ≠ "" := by simpa using hb
        obtain ⟨t, hr2⟩ := hor.resolve_left hne
        refine et_test (ev_is (ev_op (ev_sixS (hix (Ex.refl H1) rfl) (by walk_at "ev") (by omega) hr2) (by walk_at "ev") rv_neS) ?_)
        decide +kernel
      · simp at hb
      have hix0 : Ev (tOp (rIxL K) (tVar 1) (tC (.int 0))) [some (.str text), some (.ref g), none, none, none] H2 (.str w0) := ev_ofS (ed_ix (ds := [.str w0, .str r]) (i := 0) (evd_v (ev_var rfl) (dpx e2 dg)) (by walk_at "ev") (by omega) rfl)
      refine q_asg (i := 2) (v := .int p) (ev_cd (ds := [.str w0]) (evd_cons (evd_s hix0) (by walk_at "eda")) ⟨w0, p, rfl, hw, rfl⟩) fun H3 e3 => ?_
      have hsl : EvL (tSl (rSlL K) (tM1 rSplitS (tOp (rIxL K) (tVar 1) (tC (.int 1))) (tC (.str " "))) (tPart (tC (.int 1))) tNoPart) [some (.str text), some (.ref g), some (.int p), none, none] H3 (ws.map V.str) := fun H4 e4 Q q => (show EvL (tM1 rSplitS (tOp (rIxL K) (tVar 1) (tC (.int 1))) (tC (.str " "))) [some (.str text), some (.ref g), some (.int p), none, none] H3 ((e :: ws).map V.str) from by rw [← h2]; exact el_splitS (hix (e2.trans e3) rfl) (by walk_at "ev") (by decide) (by omega)) H4 e4 _ fun b H5 hb e5 h5 => by
        refine (show EvO (tPart (tC (.int 1))) [some (.str text), some (.ref g), some (.int p), none, none] H3 (some 1) from by walk_at "eo") H5 (e4.trans e5) _ fun H6 e6 => ?_
        refine ⟨b, _, rfl, sq_of (e6 _ _ h5), fun c hc => ?_⟩
        refine q c _ (fresh_back (e5.trans e6) hc) ((e5.trans e6).trans (Ex.new hc)) ?_
        rw [upd_same]
        congr 2
        unfold cutV HT.sIx
        simp
        exact List.take_of_length_le (by rw [List.length_map]; exact Nat.le_refl _)
      have grow : given (ws.map V.str).length (fun _ => true) (fun i => V.int (gi ns (i : Int))) = ns.map V.int := by
        rw [given_all, List.length_map]
        refine List.ext_getElem (by simp [hn]) fun i h1 h2 => ?_
        have h5 : i < ns.length := by simpa using h2
        rw [List.getElem_map, List.getElem_map, List.getElem_range, gi_lt h5]
      refine q_asgL (xs := ns.map V.int) (by
        rw [← grow]
        refine el_lcNL (fun _ => true) (fun i => V.int (gi ns (i : Int))) hsl (by rw [List.length_map]; omega) (fun _ => rfl) (fun _ _ _ _ _ => et_yes) (fun i x H4 e4 hx _ => ?_)
        rw [List.getElem?_map] at hx
        obtain ⟨u, hu, rfl⟩ : ∃ u, ws[i]? = some u ∧ x = V.str u := by
          cases h : ws[i]? with
          | none =>
            rw [h] at hx
            cases hx
          | some u =>
            rw [h] at hx
            exact ⟨u, rfl, (Option.some.inj hx).symm⟩
        exact ev_cd (ds := [.str u]) (by walk_at "eda") ⟨u, _, rfl, hgs i u hu, rfl⟩) fun f2 H4 hf e4 h4 => ?_
      have hi7 : i < 2 := by omega
      refine s_dropX (i := i) (ds := [.int p, dl ns]) (by walk_at "eda") ⟨p, ns, rfl, by omega, hi2⟩ (by omega) fun H5 e5 => ?_
      exact ⟨pair_yes T.err hi7, fun _ _ => q H5 (by walk_at "ex")⟩
theorem ok__law_kind (T : Txt K mg er) : ∃ f, mg "_law_kind" = some (.ref f) ∧ PySem.W.keepIn K (.ref f) = true ∧ ∀ (a : Addr) (oe : Obj), (∃ vs, oe.data = .fields vs) → ∀ i, i < 7 → Zc (.ref (er i)) none oe → PinFn P w K mg base 1 f (a, oe) (.str (kindN i)) := by
  obtain ⟨f, fd, hm, F, bd⟩ := T.d__law_kind.ex
  refine ⟨f, hm, F.kp, fun a oe hf i hi hz => ?_⟩
  refine pinFn F sc__law_kind bd fun cdv A outer s H hr => ?_
  have hpn : ∀ {pn : List (Addr × Obj)}, pn = [(a, oe)] → (a, oe) ∈ pn := fun h => by rw [h]; exact List.mem_singleton.mpr rfl
  have hpn := hpn rfl
  refine ⟨_, (pss_cons (ps_set (i := 1) sc__law_kind.nd rfl (.inl rfl) (pe_lst (pa_cons (pe_callB (callE (T.err.e i hi) hpn hz hf) (by rfl) T.z_isinstance (by decide +kernel) (pa_cons (pv 0) (pa_cons (pe_glob (v := .ref (er 0)) (by rfl) T.err.g0 rfl) pa_nil))) (pa_cons (pe_callB (callE (T.err.e i hi) hpn hz hf) (by rfl) T.z_isinstance (by decide +kernel) (pa_cons (pv 0) (pa_cons (pe_glob (v := .ref (er 1)) (by rfl) T.err.g1 rfl) pa_nil))) (pa_cons (pe_callB (callE (T.err.e i hi) hpn hz hf) (by rfl) T.z_isinstance (by decide +kernel) (pa_cons (pv 0) (pa_cons (pe_glob (v := .ref (er 2)) (by rfl) T.err.g2 rfl) pa_nil))) (pa_cons (pe_callB (callE (T.err.e i hi) hpn hz hf) (by rfl) T.z_isinstance (by decide +kernel) (pa_cons (pv 0) (pa_cons (pe_glob (v := .ref (er 3)) (by rfl) T.err.g3 rfl) pa_nil))) pa_nil))))))
      (pss_cons (ps_set (i := 1) sc__law_kind.nd rfl (.inl rfl) (pe_op op_cat (pv 1) (pe_lst (pa_cons (pe_callB (callE (T.err.e i hi) hpn hz hf) (by rfl) T.z_isinstance (by decide +kernel) (pa_cons (pv 0) (pa_cons (pe_glob (v := .ref (er 4)) (by rfl) T.err.g4 rfl) pa_nil))) (pa_cons (pe_callB (callE (T.err.e i hi) hpn hz hf) (by rfl) T.z_isinstance (by decide +kernel) (pa_cons (pv 0) (pa_cons (pe_glob (v := .ref (er 5)) (by rfl) T.err.g5 rfl) pa_nil))) (pa_cons (pe_callB (callE (T.err.e i hi) hpn hz hf) (by rfl) T.z_isinstance (by decide +kernel) (pa_cons (pv 0) (pa_cons (pe_glob (v := .ref (er 6)) (by rfl) T.err.g6 rfl) pa_nil))) pa_nil))))))
      (pss_cons (ps_if (PW.pt (pw_or (pt_not (pt_val (pe_callB (callE (T.err.e i hi) hpn hz hf) (by rfl) T.z_isinstance (by decide +kernel) (pa_cons (pv 0) (pa_cons (pe_bltn (v := .ty "ValueError") (by rfl) T.z_ValueError (by decide +kernel) rfl) pa_nil))))) (pw_or1 (pt_cmpR op_ne (pe_bm PySem.F.plainAttrs_list PySem.F.slot_list_count PySem.F.type_list_count mt_countB (pv 1) (pa_cons pe_bl pa_nil)) pe_int (nomark _)))))
      (pss_one (ps_ret pe_str))
      pss_nil)
      (pss_one (ps_ret (pe_ix (ixL (K := K) rfl) (pe_lst (pa_cons pe_str (pa_cons pe_str (pa_cons pe_str (pa_cons pe_str (pa_cons pe_str (pa_cons pe_str (pa_cons pe_str pa_nil)))))))) (pe_bm PySem.F.plainAttrs_list PySem.F.slot_list_index PySem.F.type_list_index mt_index (pv 1) (pa_cons pe_bl pa_nil)) (fun _ _ => rfl))))))), fun Q q => ?_⟩
  rw [show L2.start N__law_kind [.ref (a, oe).1] = [some (.ref a), none] from rfl]
  have h7 : i = 0 ∨ i = 1 ∨ i = 2 ∨ i = 3 ∨ i = 4 ∨ i = 5 ∨ i = 6 := by omega
  refine q_asgL (xs := [V.bl (decide (i = 0)), .bl (decide (i = 1)), .bl (decide (i = 2)), .bl (decide (i = 3))]) (el_lst (ea_cons (ev_isE (ev_var rfl) (fun u r => r) (T.err.q i 0 hi (by decide))) (ea_cons (ev_isE (ev_var rfl) (fun u r => r) (T.err.q i 1 hi (by decide))) (ea_cons (ev_isE (ev_var rfl) (fun u r => r) (T.err.q i 2 hi (by decide))) (ea_cons (ev_isE (ev_var rfl) (fun u r => r) (T.err.q i 3 hi (by decide))) ea_nil)))) (by show 4 ≤ 100000; decide)) fun g H1 hg e1 h1 => ?_
  refine q_asgL (xs := [V.bl (decide (i = 0)), .bl (decide (i = 1)), .bl (decide (i = 2)), .bl (decide (i = 3))] ++ [V.bl (decide (i = 4)), .bl (decide (i = 5)), .bl (decide (i = 6))]) (el_catX (evx_v (ev_var rfl) h1) (evx_l (el_lst (ea_cons (ev_isE (ev_var rfl) (fun u r => r) (T.err.q i 4 hi (by decide))) (ea_cons (ev_isE (ev_var rfl) (fun u r => r) (T.err.q i 5 hi (by decide))) (ea_cons (ev_isE (ev_var rfl) (fun u r => r) (T.err.q i 6 hi (by decide))) ea_nil))) (by show 3 ≤ 100000; decide))) (by show 4 + 3 ≤ 100000; decide)) fun g2 H2 hg2 e2 h2 => ?_
  have hcount : (([V.bl (decide (i = 0)), .bl (decide (i = 1)), .bl (decide (i = 2)), .bl (decide (i = 3))] ++ [V.bl (decide (i = 4)), .bl (decide (i = 5)), .bl (decide (i = 6))]).countP (fun z => eqV z (.bl true))) = 1 := by
    rcases h7 with rfl | rfl | rfl | rfl | rfl | rfl | rfl <;> rfl
  have hfl : ([V.bl (decide (i = 0)), .bl (decide (i = 1)), .bl (decide (i = 2)), .bl (decide (i = 3))] ++ [V.bl (decide (i = 4)), .bl (decide (i = 5)), .bl (decide (i = 6))]).all flatV = true := rfl
  have hget : ([V.bl (decide (i = 0)), .bl (decide (i = 1)), .bl (decide (i = 2)), .bl (decide (i = 3))] ++ [V.bl (decide (i = 4)), .bl (decide (i = 5)), .bl (decide (i = 6))])[i]? = some (.bl true) := by
    rcases h7 with rfl | rfl | rfl | rfl | rfl | rfl | rfl <;> rfl
  have hno : ∀ (m : Nat) (z' : V), m < i → ([V.bl (decide (i = 0)), .bl (decide (i = 1)), .bl (decide (i = 2)), .bl (decide (i = 3))] ++ [V.bl (decide (i = 4)), .bl (decide (i = 5)), .bl (decide (i = 6))])[m]? = some z' → eqV z' (.bl true) = false := fun m z' hm hz' => by
    have hm7 : m = 0 ∨ m = 1 ∨ m = 2 ∨ m = 3 ∨ m = 4 ∨ m = 5 := by omega
    have hmi : ¬ i = m := by omega
    have hdm : decide (i = m) = false := decide_eq_false hmi
    rcases hm7 with rfl | rfl | rfl | rfl | rfl | rfl <;> (have hz' := Option.some.inj hz'; subst hz'; rw [hdm]; rfl)
  have hnm : (([.str "prime", .str "row", .str "rule", .str "place", .str "large", .str "turn", .str "note"] : List PyData))[((i : Nat) : Int).toNat]? = some (.str (kindN i)) := by
    rcases h7 with rfl | rfl | rfl | rfl | rfl | rfl | rfl <;> rfl
  generalize ([V.bl (decide (i = 0)), .bl (decide (i = 1)), .bl (decide (i = 2)), .bl (decide (i = 3))] ++ [V.bl (decide (i = 4)), .bl (decide (i = 5)), .bl (decide (i = 6))]) = ys at hcount hfl hget hno h2
  refine q_when (b := !true || !decide (((ys.countP (fun z => eqV z (.bl true)) : Nat) : Int) = 1)) (et_or (et_not (et_B (ev_isE (ev_var rfl) (fun u r => r) (T.err.v i hi)))) (fun _ => et_test (ev_op (ev_cntB (ev_var rfl) h2 ev_c rfl hfl) ev_c rv_neI))) (fun hb H3 e3 => ?_) (fun hb H3 e3 => ?_)
  · rw [hcount] at hb
    simp at hb
  refine s_ret (v := .str (kindN i)) (ev_ofS (K := K) (ed_ix (ds := [.str "prime", .str "row", .str "rule", .str "place", .str "large", .str "turn", .str "note"]) (ed_lst (by walk_at "eda") (by show 7 ≤ 100000; decide)) (ev_idxB (ev_var rfl) (e3 _ _ h2) ev_c rfl hfl hget rfl hno) (by omega) hnm)) fun H4 e4 => q H4 (by walk_at "ex")
theorem ok__law_tried (T : Txt K mg er) : DefOk P w K mg base CX0 5 "_law_tried" ["text"] (spF K F__law_tried17) := by
  refine T.d__law_tried.ok sc__law_tried (fun vs H Q E h => ?_) (fun f cdv A outer s H vs Q E hr h => ?_)
  · obtain ⟨ds, v, hd, ⟨z, rfl, _⟩, _⟩ := h
    exact dpAll_len hd
  · obtain ⟨ds, v, hd, ⟨z, rfl, hR⟩, q⟩ := h
    obtain ⟨v_text, rfl, d_text⟩ := args1 hd
    obtain rfl := dp_str d_text
    have D_read := ok_read (P := P) (w := w) (base := base) T
    have DX_read := okX_read (P := P) (w := w) (base := base) T
    rcases hR with ⟨hbad, rfl⟩ | ⟨p, row, rfl, hpm, hn, hl, rfl⟩
    · obtain ⟨kf, km, kk, KF⟩ := ok__law_kind (P := P) (w := w) (base := base) T
      refine ⟨_, (pss_cons (ps_try_as (i := 1) rfl rfl sc__law_tried.nd rfl rfl ⟨by rfl, by decide, .inl T.err.g7⟩ takes0 (fun W pn xe tk _ => (pss_one (ps_expr (pe_cdx DX_read (hr.mono (by omega)) (by rfl) tk (pa_cons (pv 0) pa_nil))))) (fun a oe cls d pn hz hf => (pss_one (ps_ret (pe_pin (kind_pins (KF a oe hf) hz) ⟨(hr.mono (j := 1) (by omega)).dp, (hr.mono (j := 1) (by omega)).un⟩ (List.mem_cons_self ..) (by rfl) km kk (pa_cons (pv 1) pa_nil))))))
      pss_never), ?_⟩
      rw [show start N__law_tried [.str z] = [some (.str z), none] from rfl]
      refine s_dropX (i := 6) (by walk_at "eda") ⟨z, rfl, hbad, rfl⟩ (by decide) fun H1 e1 => ?_
      refine ⟨true, T.err.r 6 (by decide), fun _ a ha => ?_, fun z => nomatch z⟩
      exact pin_at (ea_cons (ev_var rfl) ea_nil) (r := .str (kindN 6)) ⟨6, by decide, rfl, rfl, rfl⟩ fun H2 e2 => q H2 (e1.trans e2)
    · refine ⟨_, (pss_cut (ps_try_thru0 (pss_one (ps_expr (pe_cd D_read (hr.mono (by omega)) (by rfl) (pa_cons (pv 0) pa_nil)))))
      (pss_one (ps_ret pe_str))), ?_⟩
      rw [show start N__law_tried [.str (noteOf p row)] = [some (.str (noteOf p row)), none] from rfl]
      refine q_cut (M := fun σ' H' => σ' = [some (.str (noteOf p row)), none] ∧ Ex H H') ?_ ?_
      · exact call_at (vs := [.str (noteOf p row)]) (by walk_at "ea") fun H2 e2 => ⟨p, row, .cons (.str _) .nil, hpm, hn, hl, fun a f H3 hf e3 h3 k3 => ⟨rfl, by walk_at "ex"⟩⟩
      · rintro σ' H1 ⟨rfl, e1⟩
        exact s_ret (v := .str "read") (by walk_at "ev") fun H2 e2 => q H2 (by walk_at "ex")
theorem ok_law {f : Addr} {fd : FuncData} (F : Fun K "law" "law" s_law f fd) (T : Txt K mg er) : FnOk P w K mg base CX0 6 f fd ["script"] (sp_law K) := by
  refine F.ok sc_law (fun vs H Q E h => ?_) (fun cdv A outer s H vs Q E hr h => ?_)
  · obtain ⟨a, ns, rfl, _⟩ := h
    rfl
  · obtain ⟨a, script, rfl, hS, hlen, q⟩ := h
    have d_script : Dp K H (.ref a) (dl script) := dp_dl hS
    have D__law_prime := ok__law_prime (P := P) (w := w) (base := base) T
    have D__law_row := ok__law_row (P := P) (w := w) (base := base) T
    have D__law_spoiled := ok__law_spoiled (P := P) (w := w) (base := base) T
    have D__law_cell_at := ok__law_cell_at (P := P) (w := w) (base := base) T
    have D__law_tried := ok__law_tried (P := P) (w := w) (base := base) T
    have D__law_text := ok__law_text (P := P) (w := w) (base := base) T
    refine ⟨_, (pss_cons (ps_set (i := 1) sc_law.nd rfl (.inl rfl) (pe_cd D__law_prime (hr.mono (by omega)) (by rfl) (pa_cons (pe_cd D__law_cell_at (hr.mono (by omega)) (by rfl) (pa_cons (pv 0) (pa_cons pe_int pa_nil))) pa_nil)))
      (pss_cons (ps_set (i := 2) sc_law.nd rfl (.inl rfl) (pe_cd D__law_row (hr.mono (by omega)) (by rfl) (pa_cons (pv 0) (pa_cons (pv 1) (pa_cons pe_int pa_nil)))))
      (pss_cons (ps_set (i := 3) sc_law.nd rfl (.inl rfl) (pe_cd D__law_spoiled (hr.mono (by omega)) (by rfl) (pa_cons (pv 1) (pa_cons (pv 2) (pa_cons (pe_op op_mod (pe_cd D__law_cell_at (hr.mono (by omega)) (by rfl) (pa_cons (pv 0) (pa_cons pe_int pa_nil))) pe_int) (pa_cons (pe_op op_mod (pe_cd D__law_cell_at (hr.mono (by omega)) (by rfl) (pa_cons (pv 0) (pa_cons pe_int pa_nil))) pe_int) pa_nil))))))
      (pss_cons (ps_if (PW.pt (pw_or (pt_cmpR op_ne (pe_cd D__law_tried (hr.mono (by omega)) (by rfl) (pa_cons (pv 3) pa_nil)) pe_str (nomark _)) (pw_or1 (pt_cmpR op_ne (pe_cd D__law_tried (hr.mono (by omega)) (by rfl) (pa_cons (pv 3) pa_nil)) pe_str (nomark _)))))
      (pss_one (ps_ret pe_bl))
      pss_nil)
      (pss_one (ps_ret (pe_cmpR op_eq (pe_cd D__law_tried (hr.mono (by omega)) (by rfl) (pa_cons (pe_cd D__law_text (hr.mono (by omega)) (by rfl) (pa_cons (pv 1) (pa_cons (pv 2) pa_nil))) pa_nil)) pe_str (nomark _)))))))), ?_⟩
    rw [show start N_law [.ref a] = [some (.ref a), none, none, none] from rfl]
    refine q_asg (by walk_at "ev") fun H1 e1 => ?_
    have hpm := lawPrime_mem (cellAt script 0)
    generalize lawPrime (cellAt script 0) = p at hpm ⊢
    have hpl := primes_le p hpm
    refine q_call (ds := [dl script, .int p, .int 24]) (by walk_at "eda") fun vs H2 e2 hv => ⟨script, p, 24, hv, by omega, hpl.2, by omega, by omega, fun row b H3 hn hl hb e3 h3 => ?_⟩
    show tSeq _ _ _ [some (.ref a), some (.int p), some (.ref b), none] H3
    have hl : row.length ≤ 24 := by omega
    refine q_call (ds := [.int p, dl row, .int (cellAt script 7 % 6), .int (cellAt script 8 % 1000003)]) (by walk_at "eda") fun vs H4 e4 hv => ⟨p, row, cellAt script 7 % 6, cellAt script 8 % 1000003, hv, hpl.1, hpl.2, hn, hl, by omega, by omega, by omega, fun z H5 hz e5 => ?_⟩
    show tSeq _ _ _ [some (.ref a), some (.int p), some (.ref b), some (.str z)] H5
    have hev : ∀ H6, Ev (tCall (spF K F__law_tried17) [] E0 (tCons (tVar 3) tNil)) [some (.ref a), some (.int p), some (.ref b), some (.str z)] H6 (.str "note") := fun H6 => ev_cd (ds := [.str z]) (evd_cons (evd_s (ev_var rfl)) evd_nil) ⟨z, rfl, Or.inl ⟨hz, rfl⟩⟩
    refine q_when (b := !decide (("note" : PySem.Str) = "note") || !decide (("note" : PySem.Str) = "note")) (et_or (et_test (ev_op (hev _) (by walk_at "ev") rv_neS)) (fun _ => et_test (ev_op (hev _) (by walk_at "ev") rv_neS))) (fun hb H6 e6 => ?_) (fun hb H6 e6 => ?_)
    · simp at hb
    refine s_ret (v := .bl true) (ev_is (v := .bl (decide (("read" : PySem.Str) = "read"))) (ev_op (ev_cd (ds := [.str (noteOf p row)]) (by walk_at "eda") ⟨noteOf p row, rfl, Or.inr ⟨p, row, rfl, hpm, hn, by omega, rfl⟩⟩) (by walk_at "ev") rv_eqS) (by simp)) fun H7 _ => q H7
end
/-! ### what the top has written -/
theorem txt_mk {l : PySem.W.OpenLaw} {w : World} {K : PySem.W.Frag} {h : Heap} {mg : PySem.Str → Option Value} {fa : Addr} (X : K.In h) (G : h.Ns mainGlobals mg) (hfa : mg "law" = some (.ref fa))
    {f0 f1 f2 f3 f4 f5 f6 f7 f8 f9 f10 f11 f12 f13 f14 f15 f16 f17 : Addr} {od0 an0 od1 an1 od2 an2 od3 an3 od4 an4 od5 an5 od6 an6 od7 an7 od8 an8 od9 an9 od10 an10 od11 an11 od12 an12 od13 an13 od14 an14 od15 an15 od16 an16 od17 an17 : Option Addr} {sl0 sl1 sl2 sl3 sl4 sl5 sl6 sl7 sl8 sl9 sl10 sl11 sl12 sl13 sl14 sl15 sl16 sl17 : Array (Option Value)} {oc0 kV0 dc0 pm0 cv0 ct0 oc1 kV1 dc1 pm1 cv1 ct1 oc2 kV2 dc2 pm2 cv2 ct2 oc3 kV3 dc3 pm3 cv3 ct3 oc4 kV4 dc4 pm4 cv4 ct4 oc5 kV5 dc5 pm5 cv5 ct5 oc6 kV6 dc6 pm6 cv6 ct6 oc7 kV7 dc7 pm7 cv7 ct7 oc8 kV8 dc8 pm8 cv8 ct8 oc9 kV9 dc9 pm9 cv9 ct9 oc10 kV10 dc10 pm10 cv10 ct10 oc11 kV11 dc11 pm11 cv11 ct11 oc12 kV12 dc12 pm12 cv12 ct12 oc13 kV13 dc13 pm13 cv13 ct13 oc14 kV14 dc14 pm14 cv14 ct14 oc15 kV15 dc15 pm15 cv15 ct15 oc16 kV16 dc16 pm16 cv16 ct16 oc17 kV17 dc17 pm17 cv17 ct17 : Value} {t_MOST t_FIGURES : Tok} {c0 c1 c2 c3 c4 c5 c6 c7 : Addr}
    (a0 : PySem.W.nsIn K mainGlobals "_law_prime" = some (some (.ref f0))) (l0 : K.lookup f0 = some ⟨oc0, od0, .func (PySem.W.fnOf "_law_prime" "_law_prime" (defArgs s__law_prime) (defBody s__law_prime) (defScope s__law_prime) .none kV0 dc0 pm0 an0 cv0 ct0), sl0⟩) (cc0 : PySem.W.codeIn K cv0 "_law_prime" = true) (k0 : PySem.W.keepIn K (.ref f0) = true)
    (a1 : PySem.W.nsIn K mainGlobals "_law_next" = some (some (.ref f1))) (l1 : K.lookup f1 = some ⟨oc1, od1, .func (PySem.W.fnOf "_law_next" "_law_next" (defArgs s__law_next) (defBody s__law_next) (defScope s__law_next) .none kV1 dc1 pm1 an1 cv1 ct1), sl1⟩) (cc1 : PySem.W.codeIn K cv1 "_law_next" = true) (k1 : PySem.W.keepIn K (.ref f1) = true)
    (a2 : PySem.W.nsIn K mainGlobals "_law_numbers" = some (some (.ref f2))) (l2 : K.lookup f2 = some ⟨oc2, od2, .func (PySem.W.fnOf "_law_numbers" "_law_numbers" (defArgs s__law_numbers) (defBody s__law_numbers) (defScope s__law_numbers) .none kV2 dc2 pm2 an2 cv2 ct2), sl2⟩) (cc2 : PySem.W.codeIn K cv2 "_law_numbers" = true) (k2 : PySem.W.keepIn K (.ref f2) = true)
    (a3 : PySem.W.nsIn K mainGlobals "_law_cell_at" = some (some (.ref f3))) (l3 : K.lookup f3 = some ⟨oc3, od3, .func (PySem.W.fnOf "_law_cell_at" "_law_cell_at" (defArgs s__law_cell_at) (defBody s__law_cell_at) (defScope s__law_cell_at) .none kV3 dc3 pm3 an3 cv3 ct3), sl3⟩) (cc3 : PySem.W.codeIn K cv3 "_law_cell_at" = true) (k3 : PySem.W.keepIn K (.ref f3) = true)
    (a4 : PySem.W.nsIn K mainGlobals "_law_tells" = some (some (.ref f4))) (l4 : K.lookup f4 = some ⟨oc4, od4, .func (PySem.W.fnOf "_law_tells" "_law_tells" (defArgs s__law_tells) (defBody s__law_tells) (defScope s__law_tells) .none kV4 dc4 pm4 an4 cv4 ct4), sl4⟩) (cc4 : PySem.W.codeIn K cv4 "_law_tells" = true) (k4 : PySem.W.keepIn K (.ref f4) = true)
    (a5 : PySem.W.nsIn K mainGlobals "_law_on" = some (some (.ref f5))) (l5 : K.lookup f5 = some ⟨oc5, od5, .func (PySem.W.fnOf "_law_on" "_law_on" (defArgs s__law_on) (defBody s__law_on) (defScope s__law_on) .none kV5 dc5 pm5 an5 cv5 ct5), sl5⟩) (cc5 : PySem.W.codeIn K cv5 "_law_on" = true) (k5 : PySem.W.keepIn K (.ref f5) = true)
    (a6 : PySem.W.nsIn K mainGlobals "_law_row" = some (some (.ref f6))) (l6 : K.lookup f6 = some ⟨oc6, od6, .func (PySem.W.fnOf "_law_row" "_law_row" (defArgs s__law_row) (defBody s__law_row) (defScope s__law_row) .none kV6 dc6 pm6 an6 cv6 ct6), sl6⟩) (cc6 : PySem.W.codeIn K cv6 "_law_row" = true) (k6 : PySem.W.keepIn K (.ref f6) = true)
    (a7 : PySem.W.nsIn K mainGlobals "_law_text" = some (some (.ref f7))) (l7 : K.lookup f7 = some ⟨oc7, od7, .func (PySem.W.fnOf "_law_text" "_law_text" (defArgs s__law_text) (defBody s__law_text) (defScope s__law_text) .none kV7 dc7 pm7 an7 cv7 ct7), sl7⟩) (cc7 : PySem.W.codeIn K cv7 "_law_text" = true) (k7 : PySem.W.keepIn K (.ref f7) = true)
    (a8 : PySem.W.nsIn K mainGlobals "_law_spoiled" = some (some (.ref f8))) (l8 : K.lookup f8 = some ⟨oc8, od8, .func (PySem.W.fnOf "_law_spoiled" "_law_spoiled" (defArgs s__law_spoiled) (defBody s__law_spoiled) (defScope s__law_spoiled) .none kV8 dc8 pm8 an8 cv8 ct8), sl8⟩) (cc8 : PySem.W.codeIn K cv8 "_law_spoiled" = true) (k8 : PySem.W.keepIn K (.ref f8) = true)
    (a9 : PySem.W.nsIn K mainGlobals "number_of" = some (some (.ref f9))) (l9 : K.lookup f9 = some ⟨oc9, od9, .func (PySem.W.fnOf "number_of" "number_of" (defArgs s_number_of) (defBody s_number_of) (defScope s_number_of) .none kV9 dc9 pm9 an9 cv9 ct9), sl9⟩) (cc9 : PySem.W.codeIn K cv9 "number_of" = true) (k9 : PySem.W.keepIn K (.ref f9) = true)
    (a10 : PySem.W.nsIn K mainGlobals "is_prime" = some (some (.ref f10))) (l10 : K.lookup f10 = some ⟨oc10, od10, .func (PySem.W.fnOf "is_prime" "is_prime" (defArgs s_is_prime) (defBody s_is_prime) (defScope s_is_prime) .none kV10 dc10 pm10 an10 cv10 ct10), sl10⟩) (cc10 : PySem.W.codeIn K cv10 "is_prime" = true) (k10 : PySem.W.keepIn K (.ref f10) = true)
    (a11 : PySem.W.nsIn K mainGlobals "ask_prime" = some (some (.ref f11))) (l11 : K.lookup f11 = some ⟨oc11, od11, .func (PySem.W.fnOf "ask_prime" "ask_prime" (defArgs s_ask_prime) (defBody s_ask_prime) (defScope s_ask_prime) .none kV11 dc11 pm11 an11 cv11 ct11), sl11⟩) (cc11 : PySem.W.codeIn K cv11 "ask_prime" = true) (k11 : PySem.W.keepIn K (.ref f11) = true)
    (a12 : PySem.W.nsIn K mainGlobals "are_numbers" = some (some (.ref f12))) (l12 : K.lookup f12 = some ⟨oc12, od12, .func (PySem.W.fnOf "are_numbers" "are_numbers" (defArgs s_are_numbers) (defBody s_are_numbers) (defScope s_are_numbers) .none kV12 dc12 pm12 an12 cv12 ct12), sl12⟩) (cc12 : PySem.W.codeIn K cv12 "are_numbers" = true) (k12 : PySem.W.keepIn K (.ref f12) = true)
    (a13 : PySem.W.nsIn K mainGlobals "ask_row" = some (some (.ref f13))) (l13 : K.lookup f13 = some ⟨oc13, od13, .func (PySem.W.fnOf "ask_row" "ask_row" (defArgs s_ask_row) (defBody s_ask_row) (defScope s_ask_row) .none kV13 dc13 pm13 an13 cv13 ct13), sl13⟩) (cc13 : PySem.W.codeIn K cv13 "ask_row" = true) (k13 : PySem.W.keepIn K (.ref f13) = true)
    (a14 : PySem.W.nsIn K mainGlobals "read" = some (some (.ref f14))) (l14 : K.lookup f14 = some ⟨oc14, od14, .func (PySem.W.fnOf "read" "read" (defArgs s_read) (defBody s_read) (defScope s_read) .none kV14 dc14 pm14 an14 cv14 ct14), sl14⟩) (cc14 : PySem.W.codeIn K cv14 "read" = true) (k14 : PySem.W.keepIn K (.ref f14) = true)
    (a15 : PySem.W.nsIn K mainGlobals "_law_kind" = some (some (.ref f15))) (l15 : K.lookup f15 = some ⟨oc15, od15, .func (PySem.W.fnOf "_law_kind" "_law_kind" (defArgs s__law_kind) (defBody s__law_kind) (defScope s__law_kind) .none kV15 dc15 pm15 an15 cv15 ct15), sl15⟩) (cc15 : PySem.W.codeIn K cv15 "_law_kind" = true) (k15 : PySem.W.keepIn K (.ref f15) = true)
    (a16 : PySem.W.nsIn K mainGlobals "_law_tried" = some (some (.ref f16))) (l16 : K.lookup f16 = some ⟨oc16, od16, .func (PySem.W.fnOf "_law_tried" "_law_tried" (defArgs s__law_tried) (defBody s__law_tried) (defScope s__law_tried) .none kV16 dc16 pm16 an16 cv16 ct16), sl16⟩) (cc16 : PySem.W.codeIn K cv16 "_law_tried" = true) (k16 : PySem.W.keepIn K (.ref f16) = true)
    (a17 : PySem.W.nsIn K mainGlobals "law" = some (some (.ref f17))) (l17 : K.lookup f17 = some ⟨oc17, od17, .func (PySem.W.fnOf "law" "law" (defArgs s_law) (defBody s_law) (defScope s_law) .none kV17 dc17 pm17 an17 cv17 ct17), sl17⟩) (cc17 : PySem.W.codeIn K cv17 "law" = true) (k17 : PySem.W.keepIn K (.ref f17) = true)
    (eg0 : PySem.W.nsIn K mainGlobals "NoPrime" = some (some (.ref c0)))
    (eg1 : PySem.W.nsIn K mainGlobals "NoRow" = some (some (.ref c1)))
    (eg2 : PySem.W.nsIn K mainGlobals "NoRule" = some (some (.ref c2)))
    (eg3 : PySem.W.nsIn K mainGlobals "NoPlace" = some (some (.ref c3)))
    (eg4 : PySem.W.nsIn K mainGlobals "TooLarge" = some (some (.ref c4)))
    (eg5 : PySem.W.nsIn K mainGlobals "NoTurn" = some (some (.ref c5)))
    (eg6 : PySem.W.nsIn K mainGlobals "NoNote" = some (some (.ref c6)))
    (eg7 : PySem.W.nsIn K mainGlobals "RuleError" = some (some (.ref c7)))
    (ex0 : PySem.W.excIn K c0 [.type "ValueError", .type "Exception", .type "BaseException", .type "object"] "ValueError.__new__" = true)
    (ek0 : PySem.W.keepIn K (.ref c0) = true)
    (eb0 : PySem.W.subIn K (.ref c0) (.type "BaseException") = some true)
    (et0 : PySem.W.typeIn K (.ref c0) = some (.type "type"))
    (e10 : PySem.W.findIn K (.ref c0) "__getattribute__" = some (some (.builtin "BaseException.__getattribute__")))
    (e20 : PySem.W.findIn K (.ref c0) "__getattr__" = some none)
    (e30 : PySem.W.hasDictIn K c0 = true)
    (e40 : PySem.W.findIn K (.ref c0) "__class__" = some (some (.builtin "object.__class__")))
    (e70 : PySem.W.mroIn K c0 (.type "object") = some true)
    (er0 : PySem.W.subIn K (.ref c0) (.ref c7) = some true)
    (ev0 : PySem.W.subIn K (.ref c0) (.type "ValueError") = some true)
    (eq00 : PySem.W.subIn K (.ref c0) (.ref c0) = some true)
    (eq01 : PySem.W.subIn K (.ref c0) (.ref c1) = some false)
    (eq02 : PySem.W.subIn K (.ref c0) (.ref c2) = some false)
    (eq03 : PySem.W.subIn K (.ref c0) (.ref c3) = some false)
    (eq04 : PySem.W.subIn K (.ref c0) (.ref c4) = some false)
    (eq05 : PySem.W.subIn K (.ref c0) (.ref c5) = some false)
    (eq06 : PySem.W.subIn K (.ref c0) (.ref c6) = some false)
    (ex1 : PySem.W.excIn K c1 [.type "ValueError", .type "Exception", .type "BaseException", .type "object"] "ValueError.__new__" = true)
    (ek1 : PySem.W.keepIn K (.ref c1) = true)
    (eb1 : PySem.W.subIn K (.ref c1) (.type "BaseException") = some true)
    (et1 : PySem.W.typeIn K (.ref c1) = some (.type "type"))
    (e11 : PySem.W.findIn K (.ref c1) "__getattribute__" = some (some (.builtin "BaseException.__getattribute__")))
    (e21 : PySem.W.findIn K (.ref c1) "__getattr__" = some none)
    (e31 : PySem.W.hasDictIn K c1 = true)
    (e41 : PySem.W.findIn K (.ref c1) "__class__" = some (some (.builtin "object.__class__")))
    (e71 : PySem.W.mroIn K c1 (.type "object") = some true)
    (er1 : PySem.W.subIn K (.ref c1) (.ref c7) = some true)
    (ev1 : PySem.W.subIn K (.ref c1) (.type "ValueError") = some true)
    (eq10 : PySem.W.subIn K (.ref c1) (.ref c0) = some false)
    (eq11 : PySem.W.subIn K (.ref c1) (.ref c1) = some true)
    (eq12 : PySem.W.subIn K (.ref c1) (.ref c2) = some false)
    (eq13 : PySem.W.subIn K (.ref c1) (.ref c3) = some false)
    (eq14 : PySem.W.subIn K (.ref c1) (.ref c4) = some false)
    (eq15 : PySem.W.subIn K (.ref c1) (.ref c5) = some false)
    (eq16 : PySem.W.subIn K (.ref c1) (.ref c6) = some false)
    (ex2 : PySem.W.excIn K c2 [.type "ValueError", .type "Exception", .type "BaseException", .type "object"] "ValueError.__new__" = true)
    (ek2 : PySem.W.keepIn K (.ref c2) = true)
    (eb2 : PySem.W.subIn K (.ref c2) (.type "BaseException") = some true)
    (et2 : PySem.W.typeIn K (.ref c2) = some (.type "type"))
    (e12 : PySem.W.findIn K (.ref c2) "__getattribute__" = some (some (.builtin "BaseException.__getattribute__")))
    (e22 : PySem.W.findIn K (.ref c2) "__getattr__" = some none)
    (e32 : PySem.W.hasDictIn K c2 = true)
    (e42 : PySem.W.findIn K (.ref c2) "__class__" = some (some (.builtin "object.__class__")))
    (e72 : PySem.W.mroIn K c2 (.type "object") = some true)
    (er2 : PySem.W.subIn K (.ref c2) (.ref c7) = some true)
    (ev2 : PySem.W.subIn K (.ref c2) (.type "ValueError") = some true)
    (eq20 : PySem.W.subIn K (.ref c2) (.ref c0) = some false)
    (eq21 : PySem.W.subIn K (.ref c2) (.ref c1) = some false)
    (eq22 : PySem.W.subIn K (.ref c2) (.ref c2) = some true)
    (eq23 : PySem.W.subIn K (.ref c2) (.ref c3) = some false)
    (eq24 : PySem.W.subIn K (.ref c2) (.ref c4) = some false)
    (eq25 : PySem.W.subIn K (.ref c2) (.ref c5) = some false)
    (eq26 : PySem.W.subIn K (.ref c2) (.ref c6) = some false)
    (ex3 : PySem.W.excIn K c3 [.type "ValueError", .type "Exception", .type "BaseException", .type "object"] "ValueError.__new__" = true)
    (ek3 : PySem.W.keepIn K (.ref c3) = true)
    (eb3 : PySem.W.subIn K (.ref c3) (.type "BaseException") = some true)
    (et3 : PySem.W.typeIn K (.ref c3) = some (.type "type"))
    (e13 : PySem.W.findIn K (.ref c3) "__getattribute__" = some (some (.builtin "BaseException.__getattribute__")))
    (e23 : PySem.W.findIn K (.ref c3) "__getattr__" = some none)
    (e33 : PySem.W.hasDictIn K c3 = true)
    (e43 : PySem.W.findIn K (.ref c3) "__class__" = some (some (.builtin "object.__class__")))
    (e73 : PySem.W.mroIn K c3 (.type "object") = some true)
    (er3 : PySem.W.subIn K (.ref c3) (.ref c7) = some true)
    (ev3 : PySem.W.subIn K (.ref c3) (.type "ValueError") = some true)
    (eq30 : PySem.W.subIn K (.ref c3) (.ref c0) = some false)
    (eq31 : PySem.W.subIn K (.ref c3) (.ref c1) = some false)
    (eq32 : PySem.W.subIn K (.ref c3) (.ref c2) = some false)
    (eq33 : PySem.W.subIn K (.ref c3) (.ref c3) = some true)
    (eq34 : PySem.W.subIn K (.ref c3) (.ref c4) = some false)
    (eq35 : PySem.W.subIn K (.ref c3) (.ref c5) = some false)
    (eq36 : PySem.W.subIn K (.ref c3) (.ref c6) = some false)
    (ex4 : PySem.W.excIn K c4 [.type "ValueError", .type "Exception", .type "BaseException", .type "object"] "ValueError.__new__" = true)
    (ek4 : PySem.W.keepIn K (.ref c4) = true)
    (eb4 : PySem.W.subIn K (.ref c4) (.type "BaseException") = some true)
    (et4 : PySem.W.typeIn K (.ref c4) = some (.type "type"))
    (e14 : PySem.W.findIn K (.ref c4) "__getattribute__" = some (some (.builtin "BaseException.__getattribute__")))
    (e24 : PySem.W.findIn K (.ref c4) "__getattr__" = some none)
    (e34 : PySem.W.hasDictIn K c4 = true)
    (e44 : PySem.W.findIn K (.ref c4) "__class__" = some (some (.builtin "object.__class__")))
    (e74 : PySem.W.mroIn K c4 (.type "object") = some true)
    (er4 : PySem.W.subIn K (.ref c4) (.ref c7) = some true)
    (ev4 : PySem.W.subIn K (.ref c4) (.type "ValueError") = some true)
    (eq40 : PySem.W.subIn K (.ref c4) (.ref c0) = some false)
    (eq41 : PySem.W.subIn K (.ref c4) (.ref c1) = some false)
    (eq42 : PySem.W.subIn K (.ref c4) (.ref c2) = some false)
    (eq43 : PySem.W.subIn K (.ref c4) (.ref c3) = some false)
    (eq44 : PySem.W.subIn K (.ref c4) (.ref c4) = some true)
    (eq45 : PySem.W.subIn K (.ref c4) (.ref c5) = some false)
    (eq46 : PySem.W.subIn K (.ref c4) (.ref c6) = some false)
    (ex5 : PySem.W.excIn K c5 [.type "ValueError", .type "Exception", .type "BaseException", .type "object"] "ValueError.__new__" = true)
    (ek5 : PySem.W.keepIn K (.ref c5) = true)
    (eb5 : PySem.W.subIn K (.ref c5) (.type "BaseException") = some true)
    (et5 : PySem.W.typeIn K (.ref c5) = some (.type "type"))
    (e15 : PySem.W.findIn K (.ref c5) "__getattribute__" = some (some (.builtin "BaseException.__getattribute__")))
    (e25 : PySem.W.findIn K (.ref c5) "__getattr__" = some none)
    (e35 : PySem.W.hasDictIn K c5 = true)
    (e45 : PySem.W.findIn K (.ref c5) "__class__" = some (some (.builtin "object.__class__")))
    (e75 : PySem.W.mroIn K c5 (.type "object") = some true)
    (er5 : PySem.W.subIn K (.ref c5) (.ref c7) = some true)
    (ev5 : PySem.W.subIn K (.ref c5) (.type "ValueError") = some true)
    (eq50 : PySem.W.subIn K (.ref c5) (.ref c0) = some false)
    (eq51 : PySem.W.subIn K (.ref c5) (.ref c1) = some false)
    (eq52 : PySem.W.subIn K (.ref c5) (.ref c2) = some false)
    (eq53 : PySem.W.subIn K (.ref c5) (.ref c3) = some false)
    (eq54 : PySem.W.subIn K (.ref c5) (.ref c4) = some false)
    (eq55 : PySem.W.subIn K (.ref c5) (.ref c5) = some true)
    (eq56 : PySem.W.subIn K (.ref c5) (.ref c6) = some false)
    (ex6 : PySem.W.excIn K c6 [.type "ValueError", .type "Exception", .type "BaseException", .type "object"] "ValueError.__new__" = true)
    (ek6 : PySem.W.keepIn K (.ref c6) = true)
    (eb6 : PySem.W.subIn K (.ref c6) (.type "BaseException") = some true)
    (et6 : PySem.W.typeIn K (.ref c6) = some (.type "type"))
    (e16 : PySem.W.findIn K (.ref c6) "__getattribute__" = some (some (.builtin "BaseException.__getattribute__")))
    (e26 : PySem.W.findIn K (.ref c6) "__getattr__" = some none)
    (e36 : PySem.W.hasDictIn K c6 = true)
    (e46 : PySem.W.findIn K (.ref c6) "__class__" = some (some (.builtin "object.__class__")))
    (e76 : PySem.W.mroIn K c6 (.type "object") = some true)
    (er6 : PySem.W.subIn K (.ref c6) (.ref c7) = some true)
    (ev6 : PySem.W.subIn K (.ref c6) (.type "ValueError") = some true)
    (eq60 : PySem.W.subIn K (.ref c6) (.ref c0) = some false)
    (eq61 : PySem.W.subIn K (.ref c6) (.ref c1) = some false)
    (eq62 : PySem.W.subIn K (.ref c6) (.ref c2) = some false)
    (eq63 : PySem.W.subIn K (.ref c6) (.ref c3) = some false)
    (eq64 : PySem.W.subIn K (.ref c6) (.ref c4) = some false)
    (eq65 : PySem.W.subIn K (.ref c6) (.ref c5) = some false)
    (eq66 : PySem.W.subIn K (.ref c6) (.ref c6) = some true)
    (eb7 : PySem.W.subIn K (.ref c7) (.type "BaseException") = some true)
    (et7 : PySem.W.typeIn K (.ref c7) = some (.type "type"))
    (e37 : PySem.W.hasDictIn K c7 = true)
    (e5 : PySem.W.specialIn K (.builtin "object.__class__") "__get__" = some (some (.builtin "getset_descriptor.__get__")))
    (e6 : PySem.W.takesIn K (.builtin "object.__class__") = some true)
    (z0 : PySem.W.nsIn K mainGlobals "all" = some none)
    (z1 : PySem.W.nsIn K mainGlobals "range" = some none)
    (z2 : PySem.W.nsIn K mainGlobals "len" = some none)
    (z3 : PySem.W.nsIn K mainGlobals "int" = some none)
    (z4 : PySem.W.nsIn K mainGlobals "list" = some none)
    (z5 : PySem.W.nsIn K mainGlobals "str" = some none)
    (z6 : PySem.W.nsIn K mainGlobals "isinstance" = some none)
    (z7 : PySem.W.nsIn K mainGlobals "ValueError" = some none)
    (z8 : PySem.W.nsIn K mainGlobals "max" = some none)
    (y0 : PySem.W.nsIn K mainGlobals "MOST" = some (some (.int 30 t_MOST)))
    (y1 : PySem.W.nsIn K mainGlobals "FIGURES" = some (some (.str "0123456789" t_FIGURES)))
    : ∃ fd : FuncData, (∀ (s : Shared) (v : Value), BindsTo s fd ⟨[v], []⟩ [("script", v)]) ∧ ∀ base : Heap, K.In base → base.Ns mainGlobals mg → FnOk l.prog w K mg base CX0 6 fa fd ["script"] (sp_law K) := by
  have e := hfa.symm.trans (PySem.W.mg_of X G a17)
  cases e
  have F0 := fun_mk (st := s__law_prime) l0 cc0 k0
  have b0 := F0.binds (ps := ["cell"]) fun _ _ _ _ _ _ us hl => match us, hl with | [_], _ => rfl
  have F1 := fun_mk (st := s__law_next) l1 cc1 k1
  have b1 := F1.binds (ps := ["seed"]) fun _ _ _ _ _ _ us hl => match us, hl with | [_], _ => rfl
  have F2 := fun_mk (st := s__law_numbers) l2 cc2 k2
  have b2 := F2.binds (ps := ["p", "many", "cell"]) fun _ _ _ _ _ _ us hl => match us, hl with | [_, _, _], _ => rfl
  have F3 := fun_mk (st := s__law_cell_at) l3 cc3 k3
  have b3 := F3.binds (ps := ["script", "k"]) fun _ _ _ _ _ _ us hl => match us, hl with | [_, _], _ => rfl
  have F4 := fun_mk (st := s__law_tells) l4 cc4 k4
  have b4 := F4.binds (ps := ["p", "row", "rule"]) fun _ _ _ _ _ _ us hl => match us, hl with | [_, _, _], _ => rfl
  have F5 := fun_mk (st := s__law_on) l5 cc5 k5
  have b5 := F5.binds (ps := ["p", "row", "rule", "many"]) fun _ _ _ _ _ _ us hl => match us, hl with | [_, _, _, _], _ => rfl
  have F6 := fun_mk (st := s__law_row) l6 cc6 k6
  have b6 := F6.binds (ps := ["script", "p", "most"]) fun _ _ _ _ _ _ us hl => match us, hl with | [_, _, _], _ => rfl
  have F7 := fun_mk (st := s__law_text) l7 cc7 k7
  have b7 := F7.binds (ps := ["p", "row"]) fun _ _ _ _ _ _ us hl => match us, hl with | [_, _], _ => rfl
  have F8 := fun_mk (st := s__law_spoiled) l8 cc8 k8
  have b8 := F8.binds (ps := ["p", "row", "way", "cell"]) fun _ _ _ _ _ _ us hl => match us, hl with | [_, _, _, _], _ => rfl
  have F9 := fun_mk (st := s_number_of) l9 cc9 k9
  have b9 := F9.binds (ps := ["word"]) fun _ _ _ _ _ _ us hl => match us, hl with | [_], _ => rfl
  have F10 := fun_mk (st := s_is_prime) l10 cc10 k10
  have b10 := F10.binds (ps := ["p"]) fun _ _ _ _ _ _ us hl => match us, hl with | [_], _ => rfl
  have F11 := fun_mk (st := s_ask_prime) l11 cc11 k11
  have b11 := F11.binds (ps := ["p"]) fun _ _ _ _ _ _ us hl => match us, hl with | [_], _ => rfl
  have F12 := fun_mk (st := s_are_numbers) l12 cc12 k12
  have b12 := F12.binds (ps := ["p", "some"]) fun _ _ _ _ _ _ us hl => match us, hl with | [_, _], _ => rfl
  have F13 := fun_mk (st := s_ask_row) l13 cc13 k13
  have b13 := F13.binds (ps := ["p", "row"]) fun _ _ _ _ _ _ us hl => match us, hl with | [_, _], _ => rfl
  have F14 := fun_mk (st := s_read) l14 cc14 k14
  have b14 := F14.binds (ps := ["text"]) fun _ _ _ _ _ _ us hl => match us, hl with | [_], _ => rfl
  have F15 := fun_mk (st := s__law_kind) l15 cc15 k15
  have b15 := F15.binds (ps := ["e"]) fun _ _ _ _ _ _ us hl => match us, hl with | [_], _ => rfl
  have F16 := fun_mk (st := s__law_tried) l16 cc16 k16
  have b16 := F16.binds (ps := ["text"]) fun _ _ _ _ _ _ us hl => match us, hl with | [_], _ => rfl
  have F17 := fun_mk (st := s_law) l17 cc17 k17
  have b17 := F17.binds (ps := ["script"]) fun _ _ _ _ _ _ us hl => match us, hl with | [_], _ => rfl
  have T : Txt K mg _ := ⟨err_mk X G eg0 eg1 eg2 eg3 eg4 eg5 eg6 eg7 ex0 ek0 eb0 et0 e10 e20 e30 e40 e70 er0 ev0 eq00 eq01 eq02 eq03 eq04 eq05 eq06 ex1 ek1 eb1 et1 e11 e21 e31 e41 e71 er1 ev1 eq10 eq11 eq12 eq13 eq14 eq15 eq16 ex2 ek2 eb2 et2 e12 e22 e32 e42 e72 er2 ev2 eq20 eq21 eq22 eq23 eq24 eq25 eq26 ex3 ek3 eb3 et3 e13 e23 e33 e43 e73 er3 ev3 eq30 eq31 eq32 eq33 eq34 eq35 eq36 ex4 ek4 eb4 et4 e14 e24 e34 e44 e74 er4 ev4 eq40 eq41 eq42 eq43 eq44 eq45 eq46 ex5 ek5 eb5 et5 e15 e25 e35 e45 e75 er5 ev5 eq50 eq51 eq52 eq53 eq54 eq55 eq56 ex6 ek6 eb6 et6 e16 e26 e36 e46 e76 er6 ev6 eq60 eq61 eq62 eq63 eq64 eq65 eq66 eb7 et7 e37 e5 e6, ⟨_, _, PySem.W.mg_of X G a0, F0, b0⟩, ⟨_, _, PySem.W.mg_of X G a1, F1, b1⟩, ⟨_, _, PySem.W.mg_of X G a2, F2, b2⟩, ⟨_, _, PySem.W.mg_of X G a3, F3, b3⟩, ⟨_, _, PySem.W.mg_of X G a4, F4, b4⟩, ⟨_, _, PySem.W.mg_of X G a5, F5, b5⟩, ⟨_, _, PySem.W.mg_of X G a6, F6, b6⟩, ⟨_, _, PySem.W.mg_of X G a7, F7, b7⟩, ⟨_, _, PySem.W.mg_of X G a8, F8, b8⟩, ⟨_, _, PySem.W.mg_of X G a9, F9, b9⟩, ⟨_, _, PySem.W.mg_of X G a10, F10, b10⟩, ⟨_, _, PySem.W.mg_of X G a11, F11, b11⟩, ⟨_, _, PySem.W.mg_of X G a12, F12, b12⟩, ⟨_, _, PySem.W.mg_of X G a13, F13, b13⟩, ⟨_, _, PySem.W.mg_of X G a14, F14, b14⟩, ⟨_, _, PySem.W.mg_of X G a15, F15, b15⟩, ⟨_, _, PySem.W.mg_of X G a16, F16, b16⟩, ⟨_, _, PySem.W.mg_of X G a17, F17, b17⟩, PySem.W.mg_none_of X G z0, PySem.W.mg_none_of X G z1, PySem.W.mg_none_of X G z2, PySem.W.mg_none_of X G z3, PySem.W.mg_none_of X G z4, PySem.W.mg_none_of X G z5, PySem.W.mg_none_of X G z6, PySem.W.mg_none_of X G z7, PySem.W.mg_none_of X G z8, ⟨_, PySem.W.mg_of X G y0⟩, ⟨_, PySem.W.mg_of X G y1⟩⟩
  exact ⟨_, fun s v => .of_eq rfl, fun base _ _ => ok_law F17 T⟩
end RF
open PySem PySem.W PyProof.Rows
set_option maxHeartbeats 0 in
theorem PySem.Challenge.cw_rulefound_k17_unread_holds : PySem.Challenge.rw_rulefound_k17_unread.Holds := by
  w_on; o_law; k_head; (case hw => w_witness2)
  k_fill
  refine L2.walk_of (l := PySem.Challenge.rw_rulefound_k17_unread) (n := 63) (k := 6) (x := "script") (CX := fun _ => L2.CX0) (sp := fun w => RF.sp_law _) rfl (by decide) rfl ⟨rfl, by decide, by decide⟩ (fun w h Y => PySem.W.kIn_of Y) ?F (fun _ _ a ns hl _ hS => RF.sp_law_go hl hS) (fun _ _ _ _ _ h => h)
  case F =>
    intro w mg fa h KX G hmg
    refine' RF.txt_mk KX G hmg ?a0 ?l0 ?cc0 ?k0 ?a1 ?l1 ?cc1 ?k1 ?a2 ?l2 ?cc2 ?k2 ?a3 ?l3 ?cc3 ?k3 ?a4 ?l4 ?cc4 ?k4 ?a5 ?l5 ?cc5 ?k5 ?a6 ?l6 ?cc6 ?k6 ?a7 ?l7 ?cc7 ?k7 ?a8 ?l8 ?cc8 ?k8 ?a9 ?l9 ?cc9 ?k9 ?a10 ?l10 ?cc10 ?k10 ?a11 ?l11 ?cc11 ?k11 ?a12 ?l12 ?cc12 ?k12 ?a13 ?l13 ?cc13 ?k13 ?a14 ?l14 ?cc14 ?k14 ?a15 ?l15 ?cc15 ?k15 ?a16 ?l16 ?cc16 ?k16 ?a17 ?l17 ?cc17 ?k17 ?eg0 ?eg1 ?eg2 ?eg3 ?eg4 ?eg5 ?eg6 ?eg7 ?ex0 ?ek0 ?eb0 ?et0 ?e10 ?e20 ?e30 ?e40 ?e70 ?er0 ?ev0 ?eq00 ?eq01 ?eq02 ?eq03 ?eq04 ?eq05 ?eq06 ?ex1 ?ek1 ?eb1 ?et1 ?e11 ?e21 ?e31 ?e41 ?e71 ?er1 ?ev1 ?eq10 ?eq11 ?eq12 ?eq13 ?eq14 ?eq15 ?eq16 ?ex2 ?ek2 ?eb2 ?et2 ?e12 ?e22 ?e32 ?e42 ?e72 ?er2 ?ev2 ?eq20 ?eq21 ?eq22 ?eq23 ?eq24 ?eq25 ?eq26 ?ex3 ?ek3 ?eb3 ?et3 ?e13 ?e23 ?e33 ?e43 ?e73 ?er3 ?ev3 ?eq30 ?eq31 ?eq32 ?eq33 ?eq34 ?eq35 ?eq36 ?ex4 ?ek4 ?eb4 ?et4 ?e14 ?e24 ?e34 ?e44 ?e74 ?er4 ?ev4 ?eq40 ?eq41 ?eq42 ?eq43 ?eq44 ?eq45 ?eq46 ?ex5 ?ek5 ?eb5 ?et5 ?e15 ?e25 ?e35 ?e45 ?e75 ?er5 ?ev5 ?eq50 ?eq51 ?eq52 ?eq53 ?eq54 ?eq55 ?eq56 ?ex6 ?ek6 ?eb6 ?et6 ?e16 ?e26 ?e36 ?e46 ?e76 ?er6 ?ev6 ?eq60 ?eq61 ?eq62 ?eq63 ?eq64 ?eq65 ?eq66 ?eb7 ?et7 ?e37 ?e5 ?e6 ?z0 ?z1 ?z2 ?z3 ?z4 ?z5 ?z6 ?z7 ?z8 ?y0 ?y1
    (case a0 => k_is); (case l0 => k_is); (case cc0 => k_is); (case k0 => k_is)
    (case a1 => k_is); (case l1 => k_is); (case cc1 => k_is); (case k1 => k_is)
    (case a2 => k_is); (case l2 => k_is); (case cc2 => k_is); (case k2 => k_is)
    (case a3 => k_is); (case l3 => k_is); (case cc3 => k_is); (case k3 => k_is)
    (case a4 => k_is); (case l4 => k_is); (case cc4 => k_is); (case k4 => k_is)
    (case a5 => k_is); (case l5 => k_is); (case cc5 => k_is); (case k5 => k_is)
    (case a6 => k_is); (case l6 => k_is); (case cc6 => k_is); (case k6 => k_is)
    (case a7 => k_is); (case l7 => k_is); (case cc7 => k_is); (case k7 => k_is)
    (case a8 => k_is); (case l8 => k_is); (case cc8 => k_is); (case k8 => k_is)
    (case a9 => k_is); (case l9 => k_is); (case cc9 => k_is); (case k9 => k_is)
    (case a10 => k_is); (case l10 => k_is); (case cc10 => k_is); (case k10 => k_is)
    (case a11 => k_is); (case l11 => k_is); (case cc11 => k_is); (case k11 => k_is)
    (case a12 => k_is); (case l12 => k_is); (case cc12 => k_is); (case k12 => k_is)
    (case a13 => k_is); (case l13 => k_is); (case cc13 => k_is); (case k13 => k_is)
    (case a14 => k_is); (case l14 => k_is); (case cc14 => k_is); (case k14 => k_is)
    (case a15 => k_is); (case l15 => k_is); (case cc15 => k_is); (case k15 => k_is)
    (case a16 => k_is); (case l16 => k_is); (case cc16 => k_is); (case k16 => k_is)
    (case a17 => k_is); (case l17 => k_is); (case cc17 => k_is); (case k17 => k_is)
    (case z0 => k_is)
    (case z1 => k_is)
    (case z2 => k_is)
    (case z3 => k_is)
    (case z4 => k_is)
    (case z5 => k_is)
    (case z6 => k_is)
    (case z7 => k_is)
    (case z8 => k_is)
    (case y0 => k_is)
    (case y1 => k_is)
    (case eg0 => k_is)
    (case eg1 => k_is)
    (case eg2 => k_is)
    (case eg3 => k_is)
    (case eg4 => k_is)
    (case eg5 => k_is)
    (case eg6 => k_is)
    (case eg7 => k_is)
    (case ex0 => k_exc)
    (case ek0 => k_is)
    (case eb0 => k_is)
    (case et0 => k_is)
    (case e10 => k_is)
    (case e20 => k_is)
    (case e30 => k_is)
    (case e40 => k_is)
    (case e70 => k_is)
    (case er0 => k_is)
    (case ev0 => k_is)
    (case eq00 => k_is)
    (case eq01 => k_is)
    (case eq02 => k_is)
    (case eq03 => k_is)
    (case eq04 => k_is)
    (case eq05 => k_is)
    (case eq06 => k_is)
    (case ex1 => k_exc)
    (case ek1 => k_is)
    (case eb1 => k_is)
    (case et1 => k_is)
    (case e11 => k_is)
    (case e21 => k_is)
    (case e31 => k_is)
    (case e41 => k_is)
    (case e71 => k_is)
    (case er1 => k_is)
    (case ev1 => k_is)
    (case eq10 => k_is)
    (case eq11 => k_is)
    (case eq12 => k_is)
    (case eq13 => k_is)
    (case eq14 => k_is)
    (case eq15 => k_is)
    (case eq16 => k_is)
    (case ex2 => k_exc)
    (case ek2 => k_is)
    (case eb2 => k_is)
    (case et2 => k_is)
    (case e12 => k_is)
    (case e22 => k_is)
    (case e32 => k_is)
    (case e42 => k_is)
    (case e72 => k_is)
    (case er2 => k_is)
    (case ev2 => k_is)
    (case eq20 => k_is)
    (case eq21 => k_is)
    (case eq22 => k_is)
    (case eq23 => k_is)
    (case eq24 => k_is)
    (case eq25 => k_is)
    (case eq26 => k_is)
    (case ex3 => k_exc)
    (case ek3 => k_is)
    (case eb3 => k_is)
    (case et3 => k_is)
    (case e13 => k_is)
    (case e23 => k_is)
    (case e33 => k_is)
    (case e43 => k_is)
    (case e73 => k_is)
    (case er3 => k_is)
    (case ev3 => k_is)
    (case eq30 => k_is)
    (case eq31 => k_is)
    (case eq32 => k_is)
    (case eq33 => k_is)
    (case eq34 => k_is)
    (case eq35 => k_is)
    (case eq36 => k_is)
    (case ex4 => k_exc)
    (case ek4 => k_is)
    (case eb4 => k_is)
    (case et4 => k_is)
    (case e14 => k_is)
    (case e24 => k_is)
    (case e34 => k_is)
    (case e44 => k_is)
    (case e74 => k_is)
    (case er4 => k_is)
    (case ev4 => k_is)
    (case eq40 => k_is)
    (case eq41 => k_is)
    (case eq42 => k_is)
    (case eq43 => k_is)
    (case eq44 => k_is)
    (case eq45 => k_is)
    (case eq46 => k_is)
    (case ex5 => k_exc)
    (case ek5 => k_is)
    (case eb5 => k_is)
    (case et5 => k_is)
    (case e15 => k_is)
    (case e25 => k_is)
    (case e35 => k_is)
    (case e45 => k_is)
    (case e75 => k_is)
    (case er5 => k_is)
    (case ev5 => k_is)
    (case eq50 => k_is)
    (case eq51 => k_is)
    (case eq52 => k_is)
    (case eq53 => k_is)
    (case eq54 => k_is)
    (case eq55 => k_is)
    (case eq56 => k_is)
    (case ex6 => k_exc)
    (case ek6 => k_is)
    (case eb6 => k_is)
    (case et6 => k_is)
    (case e16 => k_is)
    (case e26 => k_is)
    (case e36 => k_is)
    (case e46 => k_is)
    (case e76 => k_is)
    (case er6 => k_is)
    (case ev6 => k_is)
    (case eq60 => k_is)
    (case eq61 => k_is)
    (case eq62 => k_is)
    (case eq63 => k_is)
    (case eq64 => k_is)
    (case eq65 => k_is)
    (case eq66 => k_is)
    (case eb7 => k_is)
    (case et7 => k_is)
    (case e37 => k_is)
    (case e5 => k_is)
    (case e6 => k_is)
