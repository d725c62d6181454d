import PyProof.Rows.All
import Wide.All
import OpenK.AllK
import Wide.FinOn
import KE.KStateDown
import Lean
import HandS.ForMost
import HandS.Exc
import HandS.TryOnly
import HandS.ExcOwn
import HandS.ExcIs
import HandS.WordsExc
import HandS.Defaults
import HandS.Style
import HandS.IsInst
import HandS.Wide
import HandS.Rev
import HandS.Head0
import HandS.Head1
import HandS.Head2
import HandS.HeadEnd
import HandS.HeadHook1
import HandS.HeadHook2
import HandS.DeepEq
import PySem.Challenge.RW_figrow_k14_refusals
set_option Elab.async false
set_option linter.all false
/-! the mathematics of rows: plain Lean, no program -/
namespace Fg

def val (b : Nat) : List Nat → Nat
  | [] => 0
  | x :: l => x + b * val b l
def AllLt (b : Nat) (l : List Nat) : Prop := ∀ x ∈ l, x < b
/-- without the noughts at its end -/
def trim : List Nat → List Nat
  | [] => []
  | x :: l => if trim l = [] ∧ x = 0 then [] else x :: trim l
def digits (b n : Nat) : List Nat :=
  if h : 2 ≤ b ∧ 0 < n then n % b :: digits b (n / b) else []
termination_by n
decreasing_by exact Nat.div_lt_self h.2 h.1

theorem digits_zero (b : Nat) : digits b 0 = [] := by
  unfold digits
  rw [dif_neg (by omega)]
theorem digits_pos {b n : Nat} (hb : 2 ≤ b) (hn : 0 < n) : digits b n = n % b :: digits b (n / b) := by
  rw [digits.eq_def]
  rw [dif_pos ⟨hb, hn⟩]
theorem digits_nil {b n : Nat} (hb : 2 ≤ b) : digits b n = [] ↔ n = 0 := by
  constructor
  · intro h
    by_cases hn : 0 < n
    · rw [digits_pos hb hn] at h
      cases h
    · omega
  · rintro rfl
    exact digits_zero b
theorem val_digits {b : Nat} (hb : 2 ≤ b) (n : Nat) : val b (digits b n) = n := by
  induction n using Nat.strongRecOn with
  | ind n ih =>
    by_cases hn : 0 < n
    · rw [digits_pos hb hn]
      show n % b + b * val b (digits b (n / b)) = n
      rw [ih (n / b) (Nat.div_lt_self hn hb)]
      exact Nat.mod_add_div n b
    · have : n = 0 := by omega
      subst this
      rw [digits_zero]
      rfl
theorem digits_lt {b : Nat} (hb : 2 ≤ b) (n : Nat) : AllLt b (digits b n) := by
  induction n using Nat.strongRecOn with
  | ind n ih =>
    by_cases hn : 0 < n
    · rw [digits_pos hb hn]
      intro x hx
      rcases List.mem_cons.mp hx with rfl | hx
      · exact Nat.mod_lt _ (by omega)
      · exact ih (n / b) (Nat.div_lt_self hn hb) x hx
    · have : n = 0 := by omega
      subst this
      rw [digits_zero]
      intro x hx
      cases hx
theorem AllLt.nil {b : Nat} : AllLt b [] := fun _ h => nomatch h
theorem AllLt.cons {b x : Nat} {l : List Nat} (h : x < b) (h2 : AllLt b l) : AllLt b (x :: l) := fun y hy => by
  rcases List.mem_cons.mp hy with rfl | hy
  · exact h
  · exact h2 y hy
theorem AllLt.head {b x : Nat} {l : List Nat} (h : AllLt b (x :: l)) : x < b := h x List.mem_cons_self
theorem AllLt.tail {b x : Nat} {l : List Nat} (h : AllLt b (x :: l)) : AllLt b l := fun y hy => h y (List.mem_cons_of_mem _ hy)
theorem AllLt.append {b : Nat} {l m : List Nat} (h : AllLt b l) (h2 : AllLt b m) : AllLt b (l ++ m) := fun y hy => by
  rcases List.mem_append.mp hy with hy | hy
  · exact h y hy
  · exact h2 y hy
theorem AllLt.one {b x : Nat} (h : x < b) : AllLt b [x] := AllLt.cons h AllLt.nil
theorem AllLt.take {b : Nat} {l : List Nat} (h : AllLt b l) (k : Nat) : AllLt b (l.take k) := fun y hy => h y (List.mem_of_mem_take hy)
theorem AllLt.drop {b : Nat} {l : List Nat} (h : AllLt b l) (k : Nat) : AllLt b (l.drop k) := fun y hy => h y (List.mem_of_mem_drop hy)
theorem AllLt.reverse {b : Nat} {l : List Nat} (h : AllLt b l) : AllLt b l.reverse := fun y hy => h y (List.mem_reverse.mp hy)
theorem AllLt.get {b : Nat} {l : List Nat} (h : AllLt b l) {i : Nat} {x : Nat} (e : l[i]? = some x) : x < b := h x (List.mem_of_getElem? e)

theorem val_append (b : Nat) : ∀ (l m : List Nat), val b (l ++ m) = val b l + b ^ l.length * val b m
  | [], m => by
    show val b m = 0 + b ^ 0 * val b m
    rw [Nat.pow_zero]; omega
  | x :: l, m => by
    show x + b * val b (l ++ m) = (x + b * val b l) + b ^ (l.length + 1) * val b m
    rw [val_append b l m, Nat.pow_succ, Nat.mul_add, Nat.mul_comm (b ^ l.length) b, Nat.mul_assoc]
    omega
theorem val_snoc (b : Nat) (l : List Nat) (x : Nat) : val b (l ++ [x]) = val b l + b ^ l.length * x := by
  rw [val_append]
  show _ + b ^ l.length * (x + b * 0) = _
  rw [Nat.mul_zero, Nat.add_zero]
theorem val_lt {b : Nat} : ∀ {l : List Nat}, AllLt b l → val b l < b ^ l.length
  | [], _ => by
    show 0 < b ^ 0
    rw [Nat.pow_zero]; omega
  | x :: l, h => by
    have h1 := h.head
    have h2 := val_lt h.tail
    show x + b * val b l < b ^ (l.length + 1)
    rw [Nat.pow_succ]
    have : b * (val b l + 1) ≤ b * b ^ l.length := Nat.mul_le_mul_left b h2
    rw [Nat.mul_comm (b ^ l.length) b]
    rw [Nat.mul_add] at this
    omega
theorem val_zeros (b : Nat) : ∀ k, val b (List.replicate k 0) = 0
  | 0 => rfl
  | k + 1 => by
    rw [List.replicate_succ]
    show 0 + b * val b (List.replicate k 0) = 0
    rw [val_zeros b k]; omega
theorem AllLt.zeros {b : Nat} (hb : 0 < b) (k : Nat) : AllLt b (List.replicate k 0) := fun y hy => by
  rw [(List.mem_replicate.mp hy).2]; exact hb

/-! trim -/
theorem trim_cons (x : Nat) (l : List Nat) : trim (x :: l) = if trim l = [] ∧ x = 0 then [] else x :: trim l := rfl
theorem trim_zeros : ∀ k, trim (List.replicate k 0) = []
  | 0 => rfl
  | k + 1 => by
    rw [List.replicate_succ, trim_cons, trim_zeros k, if_pos ⟨rfl, rfl⟩]
theorem trim_snoc_zero : ∀ l : List Nat, trim (l ++ [0]) = trim l
  | [] => rfl
  | x :: l => by
    show trim (x :: (l ++ [0])) = trim (x :: l)
    rw [trim_cons, trim_cons, trim_snoc_zero l]
theorem trim_snoc_pos {y : Nat} (hy : y ≠ 0) : ∀ l : List Nat, trim (l ++ [y]) = l ++ [y]
  | [] => by
    show trim [y] = [y]
    rw [trim_cons, if_neg (fun h => hy h.2)]
    rfl
  | x :: l => by
    show trim (x :: (l ++ [y])) = x :: (l ++ [y])
    rw [trim_cons, trim_snoc_pos hy l, if_neg (fun h => by simp at h)]
theorem trim_append_zeros (l : List Nat) : ∀ k, trim (l ++ List.replicate k 0) = trim l
  | 0 => by rw [List.replicate_zero, List.append_nil]
  | k + 1 => by
    rw [List.replicate_succ', ← List.append_assoc, trim_snoc_zero, trim_append_zeros l k]
theorem trim_length_le : ∀ l : List Nat, (trim l).length ≤ l.length
  | [] => Nat.le_refl _
  | x :: l => by
    have := trim_length_le l
    rw [trim_cons]
    split
    · exact Nat.zero_le _
    · rw [List.length_cons, List.length_cons]; omega
theorem trim_eq_of_length : ∀ {l : List Nat}, l.length ≤ (trim l).length → trim l = l
  | [], _ => rfl
  | x :: l, h => by
    rw [trim_cons] at h ⊢
    split at h
    · simp at h
    · rename_i hc
      rw [if_neg hc]
      rw [List.length_cons, List.length_cons] at h
      rw [trim_eq_of_length (by omega)]
theorem digits_val {b : Nat} (hb : 2 ≤ b) : ∀ {l : List Nat}, AllLt b l → digits b (val b l) = trim l
  | [], _ => digits_zero b
  | x :: l, h => by
    have h1 := h.head
    have ih := digits_val hb h.tail
    show digits b (x + b * val b l) = trim (x :: l)
    rw [trim_cons]
    by_cases hz : x + b * val b l = 0
    · have hx : x = 0 := by omega
      have hv : val b l = 0 := by
        rcases Nat.eq_zero_or_pos (val b l) with h0 | h0
        · exact h0
        · have : 0 < b * val b l := Nat.mul_pos (by omega) h0
          omega
      rw [hv, digits_zero] at ih
      rw [hz, digits_zero, if_pos ⟨ih.symm, hx⟩]
    · rw [digits_pos hb (by omega)]
      have e1 : (x + b * val b l) % b = x := by
        rw [Nat.add_mul_mod_self_left, Nat.mod_eq_of_lt h1]
      have e2 : (x + b * val b l) / b = val b l := by
        rw [Nat.add_mul_div_left _ _ (by omega), Nat.div_eq_of_lt h1, Nat.zero_add]
      rw [e1, e2, ih, if_neg ?_]
      rintro ⟨q1, q2⟩
      rw [q1] at ih
      rw [(digits_nil hb).mp ih, q2] at hz
      simp at hz
theorem trim_digits {b : Nat} (hb : 2 ≤ b) (n : Nat) : trim (digits b n) = digits b n := by
  have h := digits_val hb (digits_lt hb n)
  rw [val_digits hb] at h
  exact h.symm
theorem digits_len_le {b n k : Nat} (hb : 2 ≤ b) (h : n < b ^ k) : (digits b n).length ≤ k := by
  induction k generalizing n with
  | zero =>
    have : n = 0 := by rw [Nat.pow_zero] at h; omega
    subst this
    rw [digits_zero]; exact Nat.le_refl _
  | succ k ih =>
    by_cases hn : 0 < n
    · rw [digits_pos hb hn, List.length_cons]
      have : n / b < b ^ k := by
        rw [Nat.pow_succ] at h
        exact Nat.div_lt_of_lt_mul (by rw [Nat.mul_comm]; exact h)
      have := ih this
      omega
    · have : n = 0 := by omega
      subst this
      rw [digits_zero]; exact Nat.zero_le _
theorem lt_pow_len {b : Nat} (hb : 2 ≤ b) (n : Nat) : n < b ^ (digits b n).length := by
  have h := val_lt (digits_lt hb n)
  rw [val_digits hb] at h
  exact h
theorem digits_len_lt {b n k : Nat} (hb : 2 ≤ b) : (digits b n).length ≤ k ↔ n < b ^ k := by
  constructor
  · intro h
    exact Nat.lt_of_lt_of_le (lt_pow_len hb n) (Nat.pow_le_pow_right (by omega) h)
  · exact digits_len_le hb
theorem digits_len_mono {b n m : Nat} (hb : 2 ≤ b) (h : n ≤ m) : (digits b n).length ≤ (digits b m).length :=
  (digits_len_lt hb).mpr (Nat.lt_of_le_of_lt h (lt_pow_len hb m))
theorem pow_le_of_len {b n k : Nat} (hb : 2 ≤ b) (h : k < (digits b n).length) : b ^ k ≤ n := by
  rcases Nat.lt_or_ge n (b ^ k) with q | q
  · have := digits_len_le hb q
    omega
  · exact q
/-- a list that is a row is the row of its number -/
theorem row_eq {b : Nat} (hb : 2 ≤ b) {l : List Nat} (h : AllLt b l) (ht : trim l = l) : l = digits b (val b l) := by
  rw [digits_val hb h, ht]
theorem row_of_long {b : Nat} (hb : 2 ≤ b) {l : List Nat} (h : AllLt b l) (hn : l.length ≤ (digits b (val b l)).length) : l = digits b (val b l) := by
  refine row_eq hb h (trim_eq_of_length ?_)
  rw [← digits_val hb h]
  exact hn
theorem digits_val_snoc {b : Nat} (hb : 2 ≤ b) {l : List Nat} {y : Nat} (h : AllLt b l) (hy : y < b) (h0 : y ≠ 0) : digits b (val b (l ++ [y])) = l ++ [y] := by
  rw [digits_val hb (h.append (AllLt.one hy)), trim_snoc_pos h0]
theorem digits_last {b n : Nat} (hb : 2 ≤ b) {l : List Nat} {y : Nat} (h : digits b n = l ++ [y]) : y ≠ 0 := by
  intro h0
  have t := trim_digits hb n
  rw [h, h0, trim_snoc_zero] at t
  have := trim_length_le l
  rw [t, List.length_append, List.length_singleton] at this
  omega

/-! parts of a row -/
theorem val_take_drop (b : Nat) (l : List Nat) (k : Nat) (h : k ≤ l.length) : val b l = val b (l.take k) + b ^ k * val b (l.drop k) := by
  have e := val_append b (l.take k) (l.drop k)
  rw [List.take_append_drop, List.length_take, Nat.min_eq_left h] at e
  exact e
theorem val_drop {b : Nat} (hb : 2 ≤ b) {l : List Nat} (h : AllLt b l) (k : Nat) : val b (l.drop k) = val b l / b ^ k := by
  rcases Nat.lt_or_ge l.length k with q | q
  · rw [List.drop_eq_nil_of_le (Nat.le_of_lt q)]
    have := val_lt h
    have h2 : b ^ l.length ≤ b ^ k := Nat.pow_le_pow_right (by omega) (Nat.le_of_lt q)
    exact (Nat.div_eq_of_lt (Nat.lt_of_lt_of_le this h2)).symm
  · have e := val_take_drop b l k q
    have hl := val_lt (h.take k)
    rw [List.length_take, Nat.min_eq_left q] at hl
    rw [e, Nat.add_mul_div_left _ _ (Nat.pow_pos (by omega)), Nat.div_eq_of_lt hl, Nat.zero_add]
theorem val_take {b : Nat} (hb : 2 ≤ b) {l : List Nat} (h : AllLt b l) (k : Nat) : val b (l.take k) = val b l % b ^ k := by
  rcases Nat.lt_or_ge l.length k with q | q
  · rw [List.take_of_length_le (Nat.le_of_lt q)]
    have := val_lt h
    have h2 : b ^ l.length ≤ b ^ k := Nat.pow_le_pow_right (by omega) (Nat.le_of_lt q)
    exact (Nat.mod_eq_of_lt (Nat.lt_of_lt_of_le this h2)).symm
  · have e := val_take_drop b l k q
    have hl := val_lt (h.take k)
    rw [List.length_take, Nat.min_eq_left q] at hl
    rw [e, Nat.add_mul_mod_self_left, Nat.mod_eq_of_lt hl]
theorem digits_drop {b : Nat} (hb : 2 ≤ b) (n k : Nat) : (digits b n).drop k = digits b (n / b ^ k) := by
  induction k generalizing n with
  | zero => rw [Nat.pow_zero, Nat.div_one]; rfl
  | succ k ih =>
    by_cases hn : 0 < n
    · rw [digits_pos hb hn, List.drop_succ_cons, ih, Nat.pow_succ, Nat.mul_comm (b ^ k) b, Nat.div_div_eq_div_mul]
    · have : n = 0 := by omega
      subst this
      rw [Nat.zero_div, digits_zero]; rfl
theorem trim_take {b : Nat} (hb : 2 ≤ b) (n k : Nat) : trim ((digits b n).take k) = digits b (n % b ^ k) := by
  rw [← digits_val hb ((digits_lt hb n).take k), val_take hb (digits_lt hb n), val_digits hb]
theorem digits_mul_pow {b n : Nat} (hb : 2 ≤ b) (hn : 0 < n) (k : Nat) : digits b (n * b ^ k) = List.replicate k 0 ++ digits b n := by
  have e : val b (List.replicate k 0 ++ digits b n) = n * b ^ k := by
    rw [val_append, val_zeros, List.length_replicate, val_digits hb, Nat.zero_add, Nat.mul_comm]
  rw [← e]
  refine (row_of_long hb ((AllLt.zeros (by omega) k).append (digits_lt hb n)) ?_).symm
  rw [e, List.length_append, List.length_replicate]
  have hp : 0 < (digits b n).length := by
    rw [digits_pos hb hn]; exact Nat.succ_pos _
  rcases Nat.lt_or_ge (digits b (n * b ^ k)).length (k + (digits b n).length) with q | q
  · have h1 : n * b ^ k < b ^ (k + (digits b n).length - 1) := (digits_len_lt hb).mp (by omega)
    have h2 : b ^ ((digits b n).length - 1) ≤ n := pow_le_of_len hb (by omega)
    have h3 : b ^ (k + (digits b n).length - 1) = b ^ ((digits b n).length - 1) * b ^ k := by
      rw [← Nat.pow_add]; congr 1; omega
    rw [h3] at h1
    have := Nat.mul_le_mul_right (b ^ k) h2
    omega
  · exact q
theorem digits_one {b : Nat} (hb : 2 ≤ b) : digits b 1 = [1] := by
  rw [digits_pos hb (by omega), Nat.mod_eq_of_lt (by omega), Nat.div_eq_of_lt (by omega), digits_zero]
theorem digits_small {b n : Nat} (hb : 2 ≤ b) (h : n < b) (h0 : 0 < n) : digits b n = [n] := by
  rw [digits_pos hb h0, Nat.mod_eq_of_lt h, Nat.div_eq_of_lt h, digits_zero]
theorem digits_cons {b n x : Nat} (hb : 2 ≤ b) (hx : x < b) (h : 0 < x + b * n) : digits b (x + b * n) = x :: digits b n := by
  rw [digits_pos hb h, Nat.add_mul_mod_self_left, Nat.mod_eq_of_lt hx, Nat.add_mul_div_left _ _ (by omega), Nat.div_eq_of_lt hx, Nat.zero_add]
/-- a row and a figure behind it -/
theorem digits_snoc_one {b : Nat} (hb : 2 ≤ b) (n : Nat) : digits b n ++ [1] = digits b (n + b ^ (digits b n).length) := by
  have h := digits_val_snoc hb (digits_lt hb n) (y := 1) (by omega) (by omega)
  rw [val_snoc, val_digits hb, Nat.mul_one] at h
  exact h.symm
theorem digits_inj {b n m : Nat} (hb : 2 ≤ b) (h : digits b n = digits b m) : n = m := by
  have := congrArg (val b) h
  rw [val_digits hb, val_digits hb] at this
  exact this
end Fg
namespace Fg
/-! ### loops from the top: turn i takes l[len - 1 - i] -/
def top (b : Nat) (l : List Nat) (i : Nat) : Nat := val b (l.drop (l.length - i))
theorem top_zero (b : Nat) (l : List Nat) : top b l 0 = 0 := by
  unfold top
  rw [Nat.sub_zero, List.drop_length]
  rfl
theorem top_all (b : Nat) (l : List Nat) : top b l l.length = val b l := by
  unfold top
  rw [Nat.sub_self]
  rfl
theorem top_succ (b : Nat) (l : List Nat) {i x : Nat} (h : l[l.length - 1 - i]? = some x) (hi : i < l.length) : top b l (i + 1) = x + b * top b l i := by
  unfold top
  have e : l.drop (l.length - (i + 1)) = x :: l.drop (l.length - i) := by
    have h1 : l.length - (i + 1) < l.length := by omega
    have h2 : l[l.length - (i + 1)] = x := by
      have h3 : l.length - 1 - i = l.length - (i + 1) := by omega
      rw [h3, List.getElem?_eq_getElem h1] at h
      exact Option.some.inj h
    rw [List.drop_eq_getElem_cons h1, h2]
    congr 2
    omega
  rw [e]
  rfl
theorem top_lt {b : Nat} {l : List Nat} (h : AllLt b l) (i : Nat) (hi : i ≤ l.length) : top b l i < b ^ i := by
  have := val_lt (h.drop (l.length - i))
  rw [List.length_drop] at this
  have e : l.length - (l.length - i) = i := by omega
  rw [e] at this
  exact this

/-! ### loops from the bottom -/
theorem val_take_succ (b : Nat) (l : List Nat) (i : Nat) : val b (l.take (i + 1)) = val b (l.take i) + b ^ i * l.getD i 0 := by
  rcases Nat.lt_or_ge i l.length with q | q
  · rw [List.take_succ_eq_append_getElem q, val_snoc, List.length_take, Nat.min_eq_left (Nat.le_of_lt q)]
    rw [List.getD_eq_getElem?_getD, List.getElem?_eq_getElem q]
    rfl
  · rw [List.take_of_length_le (by omega), List.take_of_length_le q]
    rw [List.getD_eq_getElem?_getD, List.getElem?_eq_none q]
    rfl
theorem getD_lt {b : Nat} (hb : 0 < b) {l : List Nat} (h : AllLt b l) (i : Nat) : l.getD i 0 < b := by
  rw [List.getD_eq_getElem?_getD]
  cases e : l[i]? with
  | none => exact hb
  | some x => exact h.get e

/-- the sum's loop -/
structure SumI (b : Nat) (one other : List Nat) (i : Nat) (acc : List Nat) (over : Nat) : Prop where
  lt : AllLt b acc
  len : acc.length = i
  ov : over ≤ 1
  eq : val b acc + b ^ i * over = val b (one.take i) + val b (other.take i)
theorem SumI.start (b : Nat) (one other : List Nat) : SumI b one other 0 [] 0 := ⟨AllLt.nil, rfl, by omega, by
  show 0 + b ^ 0 * 0 = 0 + 0
  omega⟩
theorem SumI.step {b : Nat} (hb : 2 ≤ b) {one other : List Nat} {i : Nat} {acc : List Nat} {over : Nat} (h1 : AllLt b one) (h2 : AllLt b other) (s : SumI b one other i acc over) :
    SumI b one other (i + 1) (acc ++ [(one.getD i 0 + other.getD i 0 + over) % b]) ((one.getD i 0 + other.getD i 0 + over) / b) := by
  have a1 := getD_lt (by omega) h1 i
  have a2 := getD_lt (by omega) h2 i
  have a3 := s.ov
  have e1 := val_take_succ b one i
  have e2 := val_take_succ b other i
  generalize one.getD i 0 = x at *
  generalize other.getD i 0 = y at *
  refine ⟨s.lt.append (AllLt.one (Nat.mod_lt _ (by omega))), by rw [List.length_append, s.len]; rfl, ?_, ?_⟩
  · have : (x + y + over) / b < 2 := Nat.div_lt_of_lt_mul (by omega)
    omega
  · rw [val_snoc, s.len, e1, e2]
    have hm := Nat.mod_add_div (x + y + over) b
    have hp : b ^ (i + 1) * ((x + y + over) / b) = b ^ i * (b * ((x + y + over) / b)) := by rw [Nat.pow_succ, Nat.mul_assoc]
    have hq : b ^ i * (x + y + over) = b ^ i * ((x + y + over) % b) + b ^ i * (b * ((x + y + over) / b)) := by rw [← Nat.mul_add, hm]
    have hr : b ^ i * (x + y + over) = b ^ i * x + b ^ i * y + b ^ i * over := by rw [Nat.mul_add, Nat.mul_add]
    have := s.eq
    rw [hp]
    omega
theorem SumI.done {b n m : Nat} (hb : 2 ≤ b) {acc : List Nat} {over : Nat} (s : SumI b (digits b n) (digits b m) (max (digits b n).length (digits b m).length) acc over) :
    (if 0 < over then acc ++ [over] else acc) = digits b (n + m) := by
  have e := s.eq
  rw [List.take_of_length_le (Nat.le_max_left _ _), List.take_of_length_le (Nat.le_max_right _ _), val_digits hb, val_digits hb] at e
  have ho := s.ov
  split
  · rename_i h0
    have := digits_val_snoc hb s.lt (y := over) (by omega) (by omega)
    rw [val_snoc, s.len, e] at this
    exact this.symm
  · rename_i h0
    have h0 : over = 0 := by omega
    rw [h0, Nat.mul_zero, Nat.add_zero] at e
    rw [← e]
    refine row_of_long hb s.lt ?_
    rw [e, s.len]
    have l1 : (digits b n).length ≤ (digits b (n + m)).length := digits_len_mono hb (by omega)
    have l2 : (digits b m).length ≤ (digits b (n + m)).length := digits_len_mono hb (by omega)
    exact Nat.max_le.mpr ⟨l1, l2⟩

/-- the difference's loop -/
structure DifI (b : Nat) (one other : List Nat) (i : Nat) (acc : List Nat) (owed : Nat) : Prop where
  lt : AllLt b acc
  len : acc.length = i
  ov : owed ≤ 1
  eq : val b (one.take i) + b ^ i * owed = val b acc + val b (other.take i)
theorem DifI.start (b : Nat) (one other : List Nat) : DifI b one other 0 [] 0 := ⟨AllLt.nil, rfl, by omega, by
  show 0 + b ^ 0 * 0 = 0 + 0
  omega⟩
/-- no debt -/
theorem DifI.step0 {b : Nat} (hb : 2 ≤ b) {one other : List Nat} {i : Nat} {acc : List Nat} {owed z : Nat} (h1 : AllLt b one) (h2 : AllLt b other) (s : DifI b one other i acc owed)
    (hz : z + other.getD i 0 + owed = one.getD i 0) : DifI b one other (i + 1) (acc ++ [z]) 0 := by
  have a1 := getD_lt (by omega) h1 i
  have e1 := val_take_succ b one i
  have e2 := val_take_succ b other i
  generalize one.getD i 0 = x at *
  generalize other.getD i 0 = y at *
  refine ⟨s.lt.append (AllLt.one (by omega)), by rw [List.length_append, s.len]; rfl, by omega, ?_⟩
  rw [val_snoc, s.len, e1, e2]
  have hr : b ^ i * x = b ^ i * z + b ^ i * y + b ^ i * owed := by rw [← Nat.mul_add, ← Nat.mul_add, hz]
  have := s.eq
  omega
theorem DifI.step1 {b : Nat} (hb : 2 ≤ b) {one other : List Nat} {i : Nat} {acc : List Nat} {owed z : Nat} (h1 : AllLt b one) (h2 : AllLt b other) (s : DifI b one other i acc owed)
    (hz : z + other.getD i 0 + owed = one.getD i 0 + b) (hl : z < b) : DifI b one other (i + 1) (acc ++ [z]) 1 := by
  have a1 := getD_lt (by omega) h1 i
  have e1 := val_take_succ b one i
  have e2 := val_take_succ b other i
  generalize one.getD i 0 = x at *
  generalize other.getD i 0 = y at *
  refine ⟨s.lt.append (AllLt.one hl), by rw [List.length_append, s.len]; rfl, by omega, ?_⟩
  rw [val_snoc, s.len, e1, e2]
  have hr : b ^ i * x + b ^ i * b = b ^ i * z + b ^ i * y + b ^ i * owed := by rw [← Nat.mul_add, ← Nat.mul_add, ← Nat.mul_add, hz]
  have hp : b ^ (i + 1) * 1 = b ^ i * b := by rw [Nat.pow_succ, Nat.mul_one]
  have := s.eq
  omega
theorem DifI.done {b n m : Nat} (hb : 2 ≤ b) (hle : m ≤ n) {acc : List Nat} {owed : Nat} (s : DifI b (digits b n) (digits b m) (digits b n).length acc owed) : trim acc = digits b (n - m) := by
  have e := s.eq
  rw [List.take_of_length_le (Nat.le_refl _), List.take_of_length_le (digits_len_mono hb hle), val_digits hb, val_digits hb] at e
  have hv := val_lt s.lt
  rw [s.len] at hv
  have ho := s.ov
  have : owed = 0 := by
    rcases Nat.eq_zero_or_pos owed with q | q
    · exact q
    · have h1 : owed = 1 := by omega
      rw [h1, Nat.mul_one] at e
      omega
  rw [this, Nat.mul_zero] at e
  rw [← digits_val hb s.lt]
  congr 1
  omega

/-- the scaled row's loop -/
structure MulI (b : Nat) (one : List Nat) (f i : Nat) (acc : List Nat) (over : Nat) : Prop where
  lt : AllLt b acc
  len : acc.length = i
  ov : over < b
  eq : val b acc + b ^ i * over = f * val b (one.take i)
theorem MulI.start {b : Nat} (hb : 2 ≤ b) (one : List Nat) (f : Nat) : MulI b one f 0 [] 0 := ⟨AllLt.nil, rfl, by omega, by
  show 0 + b ^ 0 * 0 = f * 0
  omega⟩
theorem MulI.step {b : Nat} (hb : 2 ≤ b) {one : List Nat} {f i x : Nat} {acc : List Nat} {over : Nat} (h1 : AllLt b one) (hf : f < b) (hx : one[i]? = some x) (s : MulI b one f i acc over) :
    MulI b one f (i + 1) (acc ++ [(x * f + over) % b]) ((x * f + over) / b) := by
  have a1 : x < b := h1.get hx
  have e1 := val_take_succ b one i
  have ex : one.getD i 0 = x := by rw [List.getD_eq_getElem?_getD, hx]; rfl
  rw [ex] at e1
  have ho := s.ov
  refine ⟨s.lt.append (AllLt.one (Nat.mod_lt _ (by omega))), by rw [List.length_append, s.len]; rfl, ?_, ?_⟩
  · refine Nat.div_lt_of_lt_mul ?_
    have h2 : x * f ≤ (b - 1) * (b - 1) := Nat.mul_le_mul (by omega) (by omega)
    have h3 : (b - 1) * (b - 1) + (b - 1) = (b - 1) * b := by
      rw [← Nat.mul_succ]; congr 1; omega
    have h4 : (b - 1) * b + b = b * b := by
      rw [← Nat.succ_mul]; congr 1; omega
    omega
  · rw [val_snoc, s.len, e1]
    have hm := Nat.mod_add_div (x * f + over) b
    have hp : b ^ (i + 1) * ((x * f + over) / b) = b ^ i * (b * ((x * f + over) / b)) := by rw [Nat.pow_succ, Nat.mul_assoc]
    have hq : b ^ i * (x * f + over) = b ^ i * ((x * f + over) % b) + b ^ i * (b * ((x * f + over) / b)) := by rw [← Nat.mul_add, hm]
    have hr : b ^ i * (x * f + over) = b ^ i * (x * f) + b ^ i * over := by rw [Nat.mul_add]
    have hs : f * (val b (one.take i) + b ^ i * x) = f * val b (one.take i) + b ^ i * (x * f) := by
      rw [Nat.mul_add, Nat.mul_left_comm f (b ^ i) x, Nat.mul_comm f x]
    have := s.eq
    rw [hp, hs]
    omega
theorem MulI.done {b n f : Nat} (hb : 2 ≤ b) {acc : List Nat} {over : Nat} (s : MulI b (digits b n) f (digits b n).length acc over) : trim (if 0 < over then acc ++ [over] else acc) = digits b (n * f) := by
  have e := s.eq
  rw [List.take_of_length_le (Nat.le_refl _), val_digits hb] at e
  have ho := s.ov
  split
  · rw [← digits_val hb (s.lt.append (AllLt.one ho)), val_snoc, s.len, e, Nat.mul_comm]
  · rename_i h0
    have h0 : over = 0 := by omega
    rw [h0, Nat.mul_zero, Nat.add_zero] at e
    rw [← digits_val hb s.lt, e, Nat.mul_comm]

/-- dividing from the top: by f, the base b -/
structure PartI (b T f : Nat) (i : Nat) (found : List Nat) (left : Nat) : Prop where
  lt : AllLt b found
  len : found.length = i
  q : val b found.reverse = T / f
  r : left = T % f
theorem PartI.start {b f : Nat} {T : Nat} (h : T < f) : PartI b T f 0 [] T := ⟨AllLt.nil, rfl, by
  rw [Nat.div_eq_of_lt h]; rfl, (Nat.mod_eq_of_lt h).symm⟩
theorem div_step {b T f x : Nat} (hf : 0 < f) : (x + b * T) / f = b * (T / f) + (x + b * (T % f)) / f ∧ (x + b * T) % f = (x + b * (T % f)) % f := by
  have h := Nat.mod_add_div T f
  have e : x + b * T = (x + b * (T % f)) + f * (b * (T / f)) := by
    have h2 : b * T = b * (T % f) + b * (f * (T / f)) := by rw [← Nat.mul_add, h]
    rw [h2, Nat.mul_left_comm b f]
    omega
  rw [e]
  constructor
  · rw [Nat.add_mul_div_left _ _ hf, Nat.add_comm]
  · rw [Nat.add_mul_mod_self_left]
theorem rem_step_lt {b f x left : Nat} (hx : x < b) (hl : left < f) : x + b * left < f * b := by
  have : b * (left + 1) ≤ b * f := Nat.mul_le_mul_left b hl
  rw [Nat.mul_comm f b]
  rw [Nat.mul_add] at this
  omega
theorem PartI.step {b T f x i : Nat} {found : List Nat} {left : Nat} (hf : 0 < f) (hx : x < b) (s : PartI b T f i found left) :
    PartI b (x + b * T) f (i + 1) (found ++ [(x + b * left) / f]) ((x + b * left) % f) := by
  have hr := s.r
  have hl : left < f := by rw [hr]; exact Nat.mod_lt _ hf
  obtain ⟨d1, d2⟩ := div_step (b := b) (T := T) (x := x) hf
  refine ⟨s.lt.append (AllLt.one ?_), by rw [List.length_append, s.len]; rfl, ?_, ?_⟩
  · exact Nat.div_lt_of_lt_mul (rem_step_lt hx hl)
  · rw [List.reverse_append]
    show (x + b * left) / f + b * val b found.reverse = _
    rw [s.q, d1, hr]
    omega
  · rw [d2, hr]
theorem PartI.done {b T f i : Nat} {found : List Nat} {left : Nat} (hb : 2 ≤ b) (s : PartI b T f i found left) : trim found.reverse = digits b (T / f) := by
  rw [← digits_val hb s.lt.reverse, s.q]

/-- the search for a figure of the quotient -/
theorem often_start {b n m at_ : Nat} (hb : 2 ≤ b) (hm : 0 < m) (hn : n < m * b) (hlead : b ^ at_ ≤ m) :
    (n / b ^ at_) / (m / b ^ at_ + 1) ≤ n / m ∧ n / m ≤ min (b - 1) ((n / b ^ at_) / (m / b ^ at_)) ∧ 0 < m / b ^ at_ := by
  have hB : 0 < b ^ at_ := Nat.pow_pos (by omega)
  have hl : 0 < m / b ^ at_ := Nat.div_pos hlead hB
  have hnb : n / m < b := Nat.div_lt_of_lt_mul hn
  refine ⟨?_, Nat.le_min.mpr ⟨by omega, ?_⟩, hl⟩
  · rw [Nat.le_div_iff_mul_le hm]
    have h1 : (n / b ^ at_) / (m / b ^ at_ + 1) * (m / b ^ at_ + 1) ≤ n / b ^ at_ := Nat.div_mul_le_self _ _
    have h2 : m ≤ (m / b ^ at_ + 1) * b ^ at_ := by
      have := Nat.mod_add_div m (b ^ at_)
      have h3 := Nat.mod_lt m hB
      rw [Nat.add_mul, Nat.one_mul, Nat.mul_comm (m / b ^ at_)]
      omega
    have h3 := Nat.mul_le_mul_left ((n / b ^ at_) / (m / b ^ at_ + 1)) h2
    rw [← Nat.mul_assoc] at h3
    have h4 := Nat.mul_le_mul_right (b ^ at_) h1
    have h5 : n / b ^ at_ * b ^ at_ ≤ n := Nat.div_mul_le_self _ _
    omega
  · rw [Nat.le_div_iff_mul_le hl, Nat.le_div_iff_mul_le hB, Nat.mul_assoc]
    have h1 : m / b ^ at_ * b ^ at_ ≤ m := Nat.div_mul_le_self _ _
    have h2 := Nat.mul_le_mul_left (n / m) h1
    have h3 : n / m * m ≤ n := Nat.div_mul_le_self _ _
    omega

/-- which row is the greater -/
theorem cmp_top {b : Nat} (hb : 2 ≤ b) {one other : List Nat} {a x y : Nat} (h1 : AllLt b one) (h2 : AllLt b other) (ha : a < one.length) (ha2 : a < other.length)
    (hd : one.drop (a + 1) = other.drop (a + 1)) (hx : one[a]? = some x) (hy : other[a]? = some y) (h : x < y) : val b one < val b other := by
  have e1 := val_take_drop b one a (by omega)
  have e2 := val_take_drop b other a (by omega)
  rw [List.drop_eq_getElem_cons ha] at e1
  rw [List.drop_eq_getElem_cons ha2] at e2
  rw [List.getElem?_eq_getElem ha] at hx
  rw [List.getElem?_eq_getElem ha2] at hy
  rw [Option.some.inj hx] at e1
  rw [Option.some.inj hy, ← hd] at e2
  have l1 := val_lt (h1.take a)
  rw [List.length_take, Nat.min_eq_left (by omega)] at l1
  have e1' : val b one = val b (one.take a) + b ^ a * (x + b * val b (one.drop (a + 1))) := e1
  have e2' : val b other = val b (other.take a) + b ^ a * (y + b * val b (one.drop (a + 1))) := e2
  generalize b * val b (one.drop (a + 1)) = R at *
  have h3 : b ^ a * (x + R + 1) ≤ b ^ a * (y + R) := Nat.mul_le_mul_left _ (by omega)
  rw [Nat.mul_add, Nat.mul_one] at h3
  omega

/-- the product by halves -/
theorem halves_eq {n0 n1 m0 m1 B : Nat} : n0 * m0 + ((n0 + n1) * (m0 + m1) - n0 * m0 - n1 * m1) * B + n1 * m1 * (B * B) = (n0 + B * n1) * (m0 + B * m1) := by
  have h : (n0 + n1) * (m0 + m1) - n0 * m0 - n1 * m1 = n0 * m1 + n1 * m0 := by
    have : (n0 + n1) * (m0 + m1) = n0 * m0 + n0 * m1 + (n1 * m0 + n1 * m1) := by
      rw [Nat.add_mul, Nat.mul_add, Nat.mul_add]
    omega
  rw [h]
  have : (n0 + B * n1) * (m0 + B * m1) = n0 * m0 + n0 * (B * m1) + (B * n1 * m0 + B * n1 * (B * m1)) := by
    rw [Nat.add_mul, Nat.mul_add, Nat.mul_add]
  rw [this, Nat.add_mul]
  have a1 : n0 * (B * m1) = n0 * m1 * B := by rw [Nat.mul_comm B m1, Nat.mul_assoc]
  have a2 : B * n1 * m0 = n1 * m0 * B := by rw [Nat.mul_comm B n1, Nat.mul_assoc, Nat.mul_comm B m0, ← Nat.mul_assoc]
  have a3 : B * n1 * (B * m1) = n1 * m1 * (B * B) := by
    rw [Nat.mul_comm B n1, Nat.mul_assoc, Nat.mul_assoc]
    congr 1
    rw [← Nat.mul_assoc, Nat.mul_comm (B * B) m1]
  rw [a1, a2, a3]
  omega
theorem halves_le {n0 n1 m0 m1 : Nat} : n0 * m0 ≤ (n0 + n1) * (m0 + m1) ∧ n1 * m1 ≤ (n0 + n1) * (m0 + m1) - n0 * m0 := by
  have : (n0 + n1) * (m0 + m1) = n0 * m0 + n0 * m1 + (n1 * m0 + n1 * m1) := by
    rw [Nat.add_mul, Nat.mul_add, Nat.mul_add]
  omega

/-- how many products of two figures the way of halves takes -/
def eff : Nat → Nat → Nat → Nat → Nat → Nat
  | 0, _, b, n, m => (digits b n).length * (digits b m).length
  | k + 1, l, b, n, m => if min (digits b n).length (digits b m).length ≤ l then (digits b n).length * (digits b m).length else
    let h := (max (digits b n).length (digits b m).length + 1) / 2
    eff k l b (n % b ^ h) (m % b ^ h) + eff k l b (n / b ^ h) (m / b ^ h) + eff k l b (n % b ^ h + n / b ^ h) (m % b ^ h + m / b ^ h)
theorem eff_short {k l b n m : Nat} (h : min (digits b n).length (digits b m).length ≤ l) : eff (k + 1) l b n m = (digits b n).length * (digits b m).length := by
  unfold eff
  rw [if_pos h]
theorem eff_long {k l b n m h : Nat} (hn : ¬ min (digits b n).length (digits b m).length ≤ l) (hh : (max (digits b n).length (digits b m).length + 1) / 2 = h) :
    eff (k + 1) l b n m = eff k l b (n % b ^ h) (m % b ^ h) + eff k l b (n / b ^ h) (m / b ^ h) + eff k l b (n % b ^ h + n / b ^ h) (m % b ^ h + m / b ^ h) := by
  rw [eff, if_neg hn, hh]
theorem digits_len_div {b n : Nat} (hb : 2 ≤ b) (h : 0 < n) : (digits b n).length = (digits b (n / b)).length + 1 := by
  rw [digits_pos hb h]
  rfl
theorem digits_len_pred {b n k : Nat} (hb : 2 ≤ b) (h : (digits b n).length ≤ k) : n < b ^ k := (digits_len_lt hb).mp h
/-- the tops of a division's row and divisor -/
theorem tops_small {b n m : Nat} (hb : 2 ≤ b) (hb6 : b ≤ 1000000) (hm : 0 < m) (hn : n < m * b) : n / b ^ ((digits b m).length - 2) < 1000000000000000000 ∧ m / b ^ ((digits b m).length - 2) < 1000000000000 ∧ b ^ ((digits b m).length - 2) ≤ m := by
  have hl := lt_pow_len hb m
  generalize hk : (digits b m).length = k at *
  have h1 : b ^ k ≤ b ^ (k - 2) * b ^ 2 := by
    rw [← Nat.pow_add]
    exact Nat.pow_le_pow_right (by omega) (by omega)
  have h2 : b ^ 2 ≤ 1000000 ^ 2 := Nat.pow_le_pow_left hb6 2
  have h3 : b ^ (k - 2) * b ^ 2 ≤ b ^ (k - 2) * 1000000000000 := Nat.mul_le_mul_left _ h2
  have hM : m < b ^ (k - 2) * 1000000000000 := by omega
  refine ⟨?_, Nat.div_lt_of_lt_mul hM, ?_⟩
  · refine Nat.div_lt_of_lt_mul (Nat.lt_of_lt_of_le hn ?_)
    refine Nat.le_trans (Nat.mul_le_mul (Nat.le_of_lt hM) hb6) ?_
    rw [Nat.mul_assoc]
    exact Nat.le_refl _
  · have hk1 : 1 ≤ k := by
      rcases Nat.eq_zero_or_pos k with z | z
      · rw [z] at hl
        have : b ^ 0 = 1 := rfl
        omega
      · exact z
    refine Nat.le_trans (Nat.pow_le_pow_right (by omega) (by omega : k - 2 ≤ k - 1)) (pow_le_of_len hb (by omega))
theorem trim_digits_cons {b x L : Nat} (hb : 2 ≤ b) (hx : x < b) : trim ([x] ++ digits b L) = digits b (x + b * L) := by
  have h : AllLt b ([x] ++ digits b L) := (AllLt.one hx).append (digits_lt hb L)
  rw [← digits_val hb h]
  congr 1
  show x + b * val b (digits b L) = _
  rw [val_digits hb]
theorem drop_step {b n i at_ u : Nat} (hb : 2 ≤ b) (hi : i < at_) (hu : ((digits b n).take at_)[at_ - 1 - i]? = some u) : n / b ^ (at_ - (i + 1)) = u + b * (n / b ^ (at_ - i)) := by
  have e1 : at_ - (i + 1) = at_ - 1 - i := by omega
  have e2 : at_ - i = at_ - 1 - i + 1 := by omega
  have e3 : (digits b n)[at_ - 1 - i]? = some u := by
    rw [List.getElem?_take] at hu
    rw [if_pos (by omega)] at hu
    exact hu
  have h1 := val_drop hb (digits_lt hb n) (at_ - 1 - i)
  have h2 := val_drop hb (digits_lt hb n) (at_ - 1 - i + 1)
  rw [val_digits hb] at h1 h2
  obtain ⟨h3, h4⟩ := List.getElem?_eq_some_iff.mp e3
  rw [List.drop_eq_getElem_cons h3, h4] at h1
  rw [e1, e2, ← h1, ← h2]
  rfl
theorem digits_len_other {b c n k : Nat} (hb : 2 ≤ b ∧ b ≤ 1000000) (hc : 2 ≤ c) (h : (digits b n).length ≤ k) : (digits c n).length ≤ 20 * k := by
  refine digits_len_le hc (Nat.lt_of_lt_of_le (digits_len_pred hb.1 h) ?_)
  rw [Nat.pow_mul]
  refine Nat.pow_le_pow_left (Nat.le_trans hb.2 ?_) k
  exact Nat.le_trans (by decide : 1000000 ≤ 2 ^ 20) (Nat.pow_le_pow_left hc 20)
theorem digits_prepend {b n : Nat} (hb : 2 ≤ b) {acc : List Nat} (hab : AllLt b acc) (hne : digits b n ≠ []) : acc ++ digits b n = digits b (val b (acc ++ digits b n)) := by
  have lt := digits_lt hb n
  have ho := List.dropLast_concat_getLast hne
  have hx := digits_last hb ho.symm
  have h3 := digits_val_snoc hb (l := acc ++ (digits b n).dropLast) (y := (digits b n).getLast hne) (hab.append (fun y hy => lt y ((List.dropLast_sublist (digits b n)).subset hy))) (lt _ (List.getLast_mem hne)) hx
  rw [List.append_assoc, ho] at h3
  exact h3.symm

end Fg
set_option Elab.async false
set_option linter.all false
set_option maxRecDepth 100000
/-! the base of all proofs: what is tracked, calls in one word, steps of a reading -/
namespace Fg
open PySem PySem.Spec PyProof.Rows L2

/-! ### what is tracked: the local objects, over the entry's heap -/
structure Trk (H0 H : Hp) (L : List (Addr × HO)) : Prop where
  same : Same H0 H
  new : ∀ p ∈ L, H0 p.1 = none
  nd : (L.map (·.1)).Nodup
  at_ : ∀ p ∈ L, H p.1 = some p.2
section
variable {H0 H H' : Hp} {L : List (Addr × HO)} {p : Addr} {o o' : HO}
theorem Trk.nil (H : Hp) : Trk H H [] := ⟨Same.refl H, fun _ h => (nomatch h), List.nodup_nil, fun _ h => (nomatch h)⟩
theorem Trk.call (T : Trk H0 H L) (s : Same H H') : Trk H0 H' L := ⟨T.same.trans s, T.new, T.nd, fun p hp => s _ _ (T.at_ p hp)⟩
theorem Trk.add (T : Trk H0 H L) (s : Same H H') (hn : H p = none) (h : H' p = some o) : Trk H0 H' ((p, o) :: L) := by
  refine ⟨T.same.trans s, fun q hq => ?_, ?_, fun q hq => ?_⟩
  · rcases List.mem_cons.mp hq with rfl | hq
    · exact T.same.free hn
    · exact T.new q hq
  · rw [List.map_cons]
    refine List.nodup_cons.mpr ⟨fun hm => ?_, T.nd⟩
    obtain ⟨q, hq, e⟩ := List.mem_map.mp hm
    have := T.at_ q hq
    rw [e] at this
    rw [show H p = none from hn] at this
    cases this
  · rcases List.mem_cons.mp hq with rfl | hq
    · exact h
    · exact s _ _ (T.at_ q hq)
theorem same_upd {H : Hp} {p : Addr} {o : HO} (h : H p = none) : Same H (upd H p o) := fun b x e => by
  rw [upd_ne (ne_of_none e h)]
  exact e
theorem Trk.lay (T : Trk H0 H L) (hn : H p = none) : Trk H0 (upd H p o) ((p, o) :: L) := T.add (same_upd hn) hn upd_same
theorem Trk.get (T : Trk H0 H L) {i : Nat} (e : L[i]? = some (p, o)) : H p = some o := T.at_ _ (List.mem_of_getElem? e)
theorem Trk.up (T : Trk H0 H L) (e : H0 p = some o) : H p = some o := T.same _ _ e
theorem Trk.sq {K : PySem.W.Frag} {xs : List V} (T : Trk H0 H L) (e : SqL K H0 p xs) : SqL K H p xs := T.same.seq e
theorem mem_set_ne : ∀ {L : List (Addr × HO)} {i : Nat} {p : Addr} {o o' : HO}, L[i]? = some (p, o) → (L.map (·.1)).Nodup → ∀ q ∈ L.set i (p, o'), (q = (p, o')) ∨ (q ∈ L ∧ q.1 ≠ p)
  | [], i, p, o, o', e, _, q, hq => by simp at e
  | (a, u) :: L, 0, p, o, o', e, nd, q, hq => by
    have e1 : (a, u) = (p, o) := Option.some.inj e
    injection e1 with e1 e2
    rw [List.set_cons_zero] at hq
    rcases List.mem_cons.mp hq with h | h
    · exact Or.inl h
    · refine Or.inr ⟨List.mem_cons_of_mem _ h, fun z => ?_⟩
      rw [List.map_cons] at nd
      refine (List.nodup_cons.mp nd).1 ?_
      show a ∈ _
      rw [e1, ← z]
      exact List.mem_map_of_mem h
  | (a, u) :: L, i + 1, p, o, o', e, nd, q, hq => by
    rw [List.set_cons_succ] at hq
    rw [List.map_cons] at nd
    rw [List.getElem?_cons_succ] at e
    rcases List.mem_cons.mp hq with h | h
    · subst h
      refine Or.inr ⟨List.mem_cons_self, fun z => ?_⟩
      refine (List.nodup_cons.mp nd).1 ?_
      show a ∈ _
      have z' : a = p := z
      rw [z']
      exact List.mem_map.mpr ⟨(p, o), List.mem_of_getElem? e, rfl⟩
    · rcases mem_set_ne e (List.nodup_cons.mp nd).2 q h with h | ⟨h1, h2⟩
      · exact Or.inl h
      · exact Or.inr ⟨List.mem_cons_of_mem _ h1, h2⟩
theorem map_set_fst : ∀ {L : List (Addr × HO)} {i : Nat} {p : Addr} {o o' : HO}, L[i]? = some (p, o) → (L.set i (p, o')).map (·.1) = L.map (·.1)
  | [], i, p, o, o', e => by simp at e
  | (a, u) :: L, 0, p, o, o', e => by
    have e1 : (a, u) = (p, o) := Option.some.inj e
    injection e1 with e1 e2
    rw [List.set_cons_zero, List.map_cons, List.map_cons, e1]
  | (a, u) :: L, i + 1, p, o, o', e => by
    rw [List.getElem?_cons_succ] at e
    rw [List.set_cons_succ, List.map_cons, List.map_cons, map_set_fst e]
/-- the i-th of the tracked objects is changed -/
theorem Trk.mut (T : Trk H0 H L) (i : Nat) (e : L[i]? = some (p, o)) : Trk H0 (upd H p o') (L.set i (p, o')) := by
  have hn : H0 p = none := T.new _ (List.mem_of_getElem? e)
  refine ⟨fun b x q => ?_, fun q hq => ?_, ?_, fun q hq => ?_⟩
  · rw [upd_ne (ne_of_none q hn)]
    exact T.same b x q
  · rcases mem_set_ne e T.nd q hq with h | ⟨h1, _⟩
    · rw [h]
      exact hn
    · exact T.new q h1
  · rw [map_set_fst e]
    exact T.nd
  · rcases mem_set_ne e T.nd q hq with h | ⟨h1, h2⟩
    · rw [h]
      exact upd_same
    · rw [upd_ne h2]
      exact T.at_ q h1
/-- forgetting -/
theorem Trk.drop (T : Trk H0 H L) (k : Nat) : Trk H0 H (L.drop k) := ⟨T.same, fun p hp => T.new p (List.mem_of_mem_drop hp), by
  rw [List.map_drop]
  exact List.Nodup.sublist (List.drop_sublist _ _) T.nd, fun p hp => T.at_ p (List.mem_of_mem_drop hp)⟩
theorem Trk.fresh (T : Trk H0 H L) {i : Nat} (e : L[i]? = some (p, o)) : H0 p = none := T.new _ (List.mem_of_getElem? e)
end

/-! ### promises -/
def RetL (xs : List V) (H : Hp) (Q : VK) : Prop := ∀ p H', H p = none → Same H H' → H' p = some (.lst xs) → Q (.ref p) H'
def RetV (v : V) (H : Hp) (Q : VK) : Prop := ∀ H', Same H H' → Q v H'
/-- a pair of a new list and a value; a pair of two new lists -/
def RetP (xs : List V) (v : V) (H : Hp) (Q : VK) : Prop := ∀ t p H', H t = none → H p = none → t ≠ p → Same H H' → H' p = some (.lst xs) → H' t = some (.tup [.ref p, v]) → Q (.ref t) H'
def RetPP (xs ys : List V) (H : Hp) (Q : VK) : Prop := ∀ t p q H', H t = none → H p = none → H q = none → t ≠ p → t ≠ q → p ≠ q → Same H H' → H' p = some (.lst xs) → H' q = some (.lst ys) → H' t = some (.tup [.ref p, .ref q]) → Q (.ref t) H'
section
variable {H0 H H' : Hp} {L : List (Addr × HO)} {p : Addr} {o : HO} {xs : List V} {v : V} {Q : VK}
theorem RetL.go (k : RetL xs H0 Q) (T : Trk H0 H L) (i : Nat) (e : L[i]? = some (p, .lst xs)) : Q (.ref p) H := k p H (T.fresh e) T.same (T.get e)
theorem RetV.go (k : RetV v H0 Q) (T : Trk H0 H L) : Q v H := k H T.same
end

/-! ### a def that is called by its name -/
def Cal (P : Program) (w : World) (K : PySem.W.Frag) (mg : Str → Option Value) (base : Heap) (CX : CXT) (x : Str) (k : Nat) (ps : List Str) (sp : Sp) : Prop :=
  ∃ f fd, FnOk P w K mg base CX k f fd ps sp ∧ mg x = some (.ref f) ∧ PySem.W.keepIn K (.ref f) = true ∧ Binds K fd ps []
section
variable {X : Cx} {CX : CXT} {x : Str} {j k : Nat} {ps : List Str} {sp : Sp} {E : XK} {p pos : Pos} {e : Expr} {es : List Expr} {t : TA}
theorem pcX (C : Cal X.prog X.w X.K X.mg X.base CX x j ps sp) (hr : Room k X.A) (hx : Passes CX X E) (ha : PA X (e :: es) t) (hk : j ≤ k := by omega) (hg : Gl X x := by rfl) (hdb : (x == ("__debug__" : Str)) = false := by decide)
    (he : starEach (e :: es) X.env = (false, eval e X.env) :: starEach es X.env := by rfl) (hpl : (backTo pos (starEach es X.env)).any (·.1) = false := by rfl) : PE X (.Call (.Name x p) (e :: es) [] pos) (tCall sp [] E t) := by
  obtain ⟨f, fd, F, hm, kp, b⟩ := C
  exact pe_call F (hr.mono hk) hg hm kp b .nil hx ha hdb he hpl
theorem pc (C : Cal X.prog X.w X.K X.mg X.base CX0 x j ps sp) (hr : Room k X.A) (ha : PA X (e :: es) t) (hk : j ≤ k := by omega) (hg : Gl X x := by rfl) (hdb : (x == ("__debug__" : Str)) = false := by decide)
    (he : starEach (e :: es) X.env = (false, eval e X.env) :: starEach es X.env := by rfl) (hpl : (backTo pos (starEach es X.env)).any (·.1) = false := by rfl) : PE X (.Call (.Name x p) (e :: es) [] pos) (tCall sp [] E0 t) := pcX C hr pass0 ha hk hg hdb he hpl
end

/-! ### steps of a reading -/
section
variable {K : PySem.W.Frag} {X : Cx} {σ : L2.St} {H : Hp} {D : Ends} {t u : TS} {ta tb te tc : TE} {tt tw : TT} {r : R2} {Q : VK} {v x y : V} {p q : Addr} {xs ys : List V}
theorem x_seq (h : t { D with nx := u D } σ H) : tSeq t u D σ H := h
theorem x_asg {g : TG} (h : te σ H fun x H1 => g x σ H1 D.nx) : tAsg te g D σ H := h
theorem x_name {i : Nat} {R : L2.St → Hp → Prop} (h : R (σ.set i (some v)) H) : gName i v σ H R := h
theorem x_ret (h : te σ H D.rt) : tRet te D σ H := h
theorem x_drop (h : te σ H fun _ H1 => D.nx σ H1) : tDrop te D σ H := h
theorem x_next (h : D.nx σ H) : tNext D σ H := h
theorem x_if (h : tt σ H fun b H1 => if b = true then t D σ H1 else u D σ H1) : tIfS tt t u D σ H := h
theorem x_var {i : Nat} (e : σ[i]? = some (some v)) (h : Q v H) : tVar i σ H Q := ⟨v, e, h⟩
theorem x_c (h : Q v H) : tC v σ H Q := h
theorem x_op (h : ta σ H fun x H1 => tb σ H1 fun y H2 => r x y H2 Q) : tOp r ta tb σ H Q := h
theorem x_un {r : V → Hp → VK → Prop} (h : ta σ H fun x H1 => r x H1 Q) : tUn r ta σ H Q := h
theorem x_I0 {g : Int → Int → V} {i j : Int} (h : Q (g i j) H) : rI0 g (.int i) (.int j) H Q := ⟨i, j, rfl, rfl, h⟩
theorem x_I {C : Int → Int → Prop} {g : Int → Int → V} {i j : Int} (c : C i j) (h : Q (g i j) H) : rI C g (.int i) (.int j) H Q := ⟨i, j, rfl, rfl, c, h⟩
theorem x_U {g : Int → V} {i : Int} (h : Q (g i) H) : rU g (.int i) H Q := ⟨i, rfl, h⟩
theorem x_eqI {i j : Int} (h : Q (.bl (decide (i = j))) H) : rEq (.int i) (.int j) H Q := ⟨rfl, by
  have e : decide (V.int i = V.int j) = decide (i = j) := by rw [dec_int, Bool.beq_eq_decide_eq]
  rw [e]; exact h⟩
theorem x_neI {i j : Int} (h : Q (.bl (!decide (i = j))) H) : rNe (.int i) (.int j) H Q := ⟨rfl, by
  have e : decide (V.int i = V.int j) = decide (i = j) := by rw [dec_int, Bool.beq_eq_decide_eq]
  rw [e]; exact h⟩
theorem x_nil {R : List V → Hp → Prop} (h : R [] H) : tNil σ H R := h
theorem x_cons {tr : TA} {R : List V → Hp → Prop} (h : ta σ H fun x H1 => tr σ H1 fun xs H2 => R (x :: xs) H2) : tCons ta tr σ H R := h
theorem x_call {sp : Sp} {E : XK} {tr : TA} (h : tr σ H fun vs H1 => sp (vs ++ []) H1 Q E) : tCall sp [] E tr σ H Q := h
theorem x_cb {r : List V → Hp → VK → Prop} {tr : TA} (h : tr σ H fun vs H1 => r vs H1 Q) : tCB r tr σ H Q := h
theorem x_test {R : Bool → Hp → Prop} (h : te σ H fun x H1 => ∃ k, x = .bl k ∧ R k H1) : tTest te σ H R := h
theorem x_B {R : Bool → Hp → Prop} (h : te σ H fun x H1 => ∃ k, x = .bl k ∧ R k H1) : tB te σ H R := h
theorem x_bl {b : Bool} {R : Bool → Prop} (h : R b) : ∃ k, V.bl b = .bl k ∧ R k := ⟨b, rfl, h⟩
theorem x_not {R : Bool → Hp → Prop} (h : tt σ H fun c H1 => R (!c) H1) : tNot tt σ H R := h
theorem x_and {R : Bool → Hp → Prop} (h : tt σ H fun c H1 => if c = true then tw σ H1 R else R false H1) : tAnd tt tw σ H R := h
theorem x_or {R : Bool → Hp → Prop} (h : tt σ H fun c H1 => if c = true then R true H1 else tw σ H1 R) : tOr tt tw σ H R := h
theorem x_andV (h : ta σ H fun x H1 => ∃ c, x = .bl c ∧ if c = true then tb σ H1 Q else Q (.bl false) H1) : tAndV ta tb σ H Q := h
theorem x_orV (h : ta σ H fun x H1 => ∃ c, x = .bl c ∧ if c = true then Q (.bl true) H1 else tb σ H1 Q) : tOrV ta tb σ H Q := h
theorem x_notV (h : ta σ H fun x H1 => ∃ c, x = .bl c ∧ Q (.bl (!c)) H1) : tNotV ta σ H Q := h
theorem x_ifE (h : tt σ H fun c H1 => if c = true then ta σ H1 Q else tb σ H1 Q) : tIf tt ta tb σ H Q := h
theorem x_chain {r' : R2} (h : ta σ H fun x H1 => tb σ H1 fun y H2 => r x y H2 fun z H3 => ∃ k, z = .bl k ∧ (if k = true then tc σ H3 fun w' H4 => r' y w' H4 Q else Q (.bl false) H3)) : tChain r r' ta tb tc σ H Q := h
theorem x_aug {i : Nat} {ti : TIp} (e : σ[i]? = some (some v)) (h : te σ H fun y H1 => ti v y H1 fun z H2 => D.nx (σ.set i (some z)) H2) : tAug i te ti D σ H := ⟨v, e, h⟩
/-- len, max, min -/
def rLen1 (K : PySem.W.Frag) : List V → Hp → VK → Prop := fun xs H Q => ∃ p ys, xs = [.ref p] ∧ (SqL K H p ys ∨ SqT K H p ys) ∧ Q (.int ys.length) H
theorem call_len1 : CallR X (.builtin "len") (rLen1 X.K) := call_len_seq
theorem x_len (h : H p = some (.lst xs)) (q : Q (.int xs.length) H) : rLen1 K [.ref p] H Q := ⟨p, xs, rfl, .inl (SqL.of h), q⟩
theorem x_lenS (h : SqL K H p xs) (q : Q (.int xs.length) H) : rLen1 K [.ref p] H Q := ⟨p, xs, rfl, .inl h, q⟩
theorem x_lenT (h : H p = some (.tup xs)) (q : Q (.int xs.length) H) : rLen1 K [.ref p] H Q := ⟨p, xs, rfl, .inr (SqT.of h), q⟩
def rMax2 : List V → Hp → VK → Prop := fun xs H Q => ∃ i j, xs = [.int i, .int j] ∧ Q (.int (if j > i then j else i)) H
def rMin2 : List V → Hp → VK → Prop := fun xs H Q => ∃ i j, xs = [.int i, .int j] ∧ Q (.int (if j < i then j else i)) H
theorem call_max2' (hc : X.calm = true) : CallR X (.builtin "max") rMax2 := call_max2 hc
theorem call_min2' (hc : X.calm = true) : CallR X (.builtin "min") rMin2 := call_min2 hc
theorem x_max {i j : Int} (q : Q (.int (max i j)) H) : rMax2 [.int i, .int j] H Q := ⟨i, j, rfl, by
  have e : (if j > i then j else i) = max i j := by split <;> omega
  rw [e]; exact q⟩
theorem x_min {i j : Int} (q : Q (.int (min i j)) H) : rMin2 [.int i, .int j] H Q := ⟨i, j, rfl, by
  have e : (if j < i then j else i) = min i j := by split <;> omega
  rw [e]; exact q⟩
/-- items, slices -/
theorem x_ix {i : Int} (h : H p = some (.lst xs)) (e : atI xs i = some v) (q : Q v H) : rIxL K (.ref p) (.int i) H Q := ⟨p, xs, i, v, rfl, rfl, SqL.of h, e, q⟩
theorem x_ixS {i : Int} (h : SqL K H p xs) (e : atI xs i = some v) (q : Q v H) : rIxL K (.ref p) (.int i) H Q := ⟨p, xs, i, v, rfl, rfl, h, e, q⟩
theorem x_ixT {i : Int} (h : H p = some (.tup xs)) (e : atI xs i = some v) (q : Q v H) : rIxT K (.ref p) (.int i) H Q := ⟨p, xs, i, v, rfl, rfl, SqT.of h, e, q⟩
theorem x_sl {r : V → Option Int → Option Int → Hp → VK → Prop} {tl th : TO} (h : te σ H fun x H1 => tl σ H1 fun l H2 => th σ H2 fun u H3 => r x l u H3 Q) : tSl r te tl th σ H Q := h
theorem x_po0 {R : Option Int → Hp → Prop} (h : R none H) : tNoPart σ H R := h
theorem x_po1 {R : Option Int → Hp → Prop} (h : te σ H fun x H1 => ∃ i, x = .int i ∧ R (some i) H1) : tPart te σ H R := h
theorem x_part {i : Int} {R : Int → Prop} (h : R i) : ∃ j, V.int i = .int j ∧ R j := ⟨i, rfl, h⟩
theorem x_cut {lo hi : Option Int} (h : H p = some (.lst xs)) (q : ∀ d, H d = none → Q (.ref d) (upd H d (.lst (cutV xs lo hi)))) : rSlL K (.ref p) lo hi H Q := ⟨p, xs, rfl, SqL.of h, q⟩
theorem x_revL (h : te σ H fun x H1 => ∃ a xs, x = .ref a ∧ SqL K H1 a xs ∧ ∀ d, H1 d = none → Q (.ref d) (upd H1 d (.lst xs.reverse))) : tRevL K te σ H Q := h
theorem x_rev {R : Addr → List V → Prop} (h : H p = some (.lst xs)) (q : R p xs) : ∃ a ys, V.ref p = .ref a ∧ SqL K H a ys ∧ R a ys := ⟨p, xs, rfl, SqL.of h, q⟩
/-- lists made -/
abbrev rNewL (xs : List V) (H : Hp) (Q : VK) : Prop := xs.length ≤ sizeLine ∧ ∀ d, H d = none → Q (.ref d) (upd H d (.lst xs))
abbrev rNewT (xs : List V) (H : Hp) (Q : VK) : Prop := xs.length ≤ sizeLine ∧ ∀ d, H d = none → Q (.ref d) (upd H d (.tup xs))
theorem x_lst {tr : TA} (h : tr σ H fun xs H1 => rNewL xs H1 Q) : tLst tr σ H Q := h
theorem x_tup {tr : TA} (h : tr σ H fun xs H1 => rNewT xs H1 Q) : tTup tr σ H Q := h
theorem x_cat (h1 : H p = some (.lst xs)) (h2 : H q = some (.lst ys)) (hz : xs.length + ys.length ≤ 100000) (k : ∀ d, H d = none → Q (.ref d) (upd H d (.lst (xs ++ ys)))) : rCat (.ref p) (.ref q) H Q :=
  ⟨p, q, xs, ys, rfl, rfl, h1, h2, Nat.le_trans hz (by decide), k⟩
def rList1 (K : PySem.W.Frag) : List V → Hp → VK → Prop := fun xs H Q => ∃ p ys, xs = [.ref p] ∧ (SqL K H p ys ∨ SqT K H p ys) ∧ ∀ l, H l = none → Q (.ref l) (upd H l (.lst ys))
theorem call_list1 : CallR X (.type "list") (rList1 X.K) := call_list_of
theorem x_list (h : H p = some (.lst xs)) (k : ∀ d, H d = none → Q (.ref d) (upd H d (.lst xs))) : rList1 K [.ref p] H Q := ⟨p, xs, rfl, .inl (SqL.of h), k⟩
theorem x_bm {T : String} {r : V → List V → Hp → VK → Prop} {tr : TA} (h : te σ H fun x H1 => tyV K T x H1 ∧ tr σ H1 fun xs H2 => r x xs H2 Q) : tBM K T r te tr σ H Q := h
theorem x_tyL {A : Prop} (h : H p = some (.lst xs)) (k : A) : tyV K "list" (.ref p) H ∧ A := ⟨.inl ⟨rfl, xs, SqL.of h⟩, k⟩
theorem x_app (h : H p = some (.lst xs)) (hz : xs.length < 100000) (k : Q .non (upd H p (.lst (xs ++ [v])))) : rAppend (.ref p) [v] H Q := ⟨p, xs, v, rfl, rfl, h, Nat.lt_of_lt_of_le hz (by decide), k⟩
theorem ifT {A B : Prop} {c : Bool} (hc : c = true) (h : A) : if c = true then A else B := by
  rw [hc]; exact iteT h
theorem ifF {A B : Prop} {c : Bool} (hc : c = false) (h : B) : if c = true then A else B := by
  rw [hc]; exact iteF h
theorem if2 {A B : Prop} {c : Bool} (h1 : c = true → A) (h2 : c = false → B) : if c = true then A else B := by
  cases c with
  | true => exact iteT (h1 rfl)
  | false => exact iteF (h2 rfl)
end
theorem ifnT {A B : Prop} (h : B) : if (!true) = true then A else B := iteF h
theorem ifnF {A B : Prop} (h : A) : if (!false) = true then A else B := iteT h
/-! ### rows as values -/
def iv (l : List Nat) : List V := l.map fun (n : Nat) => V.int (n : Int)
theorem iv_length (l : List Nat) : (iv l).length = l.length := List.length_map _
theorem iv_get {l : List Nat} {i x : Nat} (h : l[i]? = some x) : (iv l)[i]? = some (.int (x : Int)) := by
  unfold iv
  rw [List.getElem?_map, h]
  rfl
theorem iv_snoc (l : List Nat) (x : Nat) : iv (l ++ [x]) = iv l ++ [.int (x : Int)] := by
  unfold iv
  rw [List.map_append]
  rfl
theorem iv_append (l m : List Nat) : iv (l ++ m) = iv l ++ iv m := by
  unfold iv
  rw [List.map_append]
theorem iv_inj {l m : List Nat} (h : iv l = iv m) : l = m := by
  unfold iv at h
  refine List.map_inj_right (fun a b e => ?_) |>.mp h
  injection e with e
  omega
theorem iv_nil_iff {l : List Nat} : iv l = [] ↔ l = [] := by
  unfold iv
  exact List.map_eq_nil_iff
def dig (b n : Nat) : List V := iv (digits b n)
theorem nat_mod_cast (x b : Nat) : ((x : Int) % (b : Int)) = ((x % b : Nat) : Int) := (Int.natCast_emod x b).symm
theorem nat_div_cast (x b : Nat) : ((x : Int) / (b : Int)) = ((x / b : Nat) : Int) := (Int.natCast_ediv x b).symm
theorem cut_to (xs : List V) (k : Nat) : cutV xs none (some (k : Int)) = xs.take k := by
  unfold cutV
  rw [HT.sIx_none, HT.sIx_nat, Nat.sub_zero, List.drop_zero]
  rcases Nat.le_total k xs.length with h | h
  · rw [Nat.min_eq_left h]
  · rw [Nat.min_eq_right h, List.take_of_length_le (Nat.le_refl _), List.take_of_length_le h]
theorem cut_from (xs : List V) (k : Nat) : cutV xs (some (k : Int)) none = xs.drop k := by
  unfold cutV
  rw [HT.sIx_none, HT.sIx_nat]
  rcases Nat.le_total k xs.length with h | h
  · rw [Nat.min_eq_left h, List.take_of_length_le (by rw [List.length_drop]; omega)]
  · rw [Nat.min_eq_right h, List.drop_eq_nil_of_le (Nat.le_refl _), List.drop_eq_nil_of_le h, List.take_nil]
theorem iv_take (l : List Nat) (k : Nat) : iv (l.take k) = (iv l).take k := List.map_take
theorem iv_drop (l : List Nat) (k : Nat) : iv (l.drop k) = (iv l).drop k := List.map_drop
theorem iv_reverse (l : List Nat) : iv l.reverse = (iv l).reverse := List.map_reverse
theorem trim_take_of {l : List Nat} {k : Nat} (hk : k < l.length) (h0 : l[k]? = some 0) (e : trim (l.take (k + 1)) = trim l) : trim (l.take k) = trim l := by
  rw [List.take_succ_eq_append_getElem hk] at e
  rw [List.getElem?_eq_getElem hk] at h0
  rw [Option.some.inj h0, trim_snoc_zero] at e
  exact e
theorem trim_take_end {l : List Nat} {k x : Nat} (hk : k < l.length) (h0 : l[k]? = some x) (hx : x ≠ 0) (e : trim (l.take (k + 1)) = trim l) : l.take (k + 1) = trim l := by
  rw [← e, List.take_succ_eq_append_getElem hk]
  rw [List.getElem?_eq_getElem hk] at h0
  rw [Option.some.inj h0, trim_snoc_pos hx]
theorem iv_at {l : List Nat} {i : Nat} {v : V} (h : (iv l)[i]? = some v) : ∃ x, l[i]? = some x ∧ v = .int (x : Int) := by
  unfold iv at h
  rw [List.getElem?_map] at h
  cases e : l[i]? with
  | none =>
    rw [e] at h
    cases h
  | some x =>
    rw [e] at h
    exact ⟨x, rfl, (Option.some.inj h).symm⟩
/-! ### a def of the text -/
def Dfn (K : PySem.W.Frag) (mg : Str → Option Value) (x : Str) (st : Stmt) : Prop := ∃ f fd, FunD K x x (defArgs st) (defBody st) (defScope st) [] [] f fd ∧ mg x = some (.ref f)
section
variable {P : Program} {w : World} {K : PySem.W.Frag} {mg : Str → Option Value} {base : Heap} {x : Str} {st : Stmt} {N ps : List Str} {k : Nat} {sp : Sp}
/-- THE RULE for a def that raises nothing -/
theorem cal0 (D : Dfn K mg x st) (S : FnScope N ps (defScope st))
    (hb : ∀ (kV doc pm : Value) (an : Option Addr) (cdv ct : Value) (us : List Value), us.length = ps.length → bindArgs (PySem.W.fnOf x x (defArgs st) (defBody st) (defScope st) .none kV doc pm an cdv ct) ⟨us, []⟩ = pure (ps.zip us))
    (len : ∀ vs H Q E, sp vs H Q E → vs.length = ps.length)
    (hbody : ∀ (f : Addr) (cdv : Value) (A : Around) (outer : List Env) (s : Shared) (H : Hp) (vs : List V) (Q : VK) (E : XK), Room k (A.deeper (envOfC x (defScope st) s.heap.objs.size f cdv)) → sp vs H Q E →
      ∃ t, PSs (cxOf CX0 P w K mg base N x (defScope st) f cdv A outer s H E).nox (defBody st) t ∧ t { nx := fun _ H' => Q .non H', rt := Q } (start N vs) H) : Cal P w K mg base CX0 x (k + 1) ps sp := by
  obtain ⟨f, fd, F, hm⟩ := D
  refine ⟨f, fd, F.ok S len fun cdv A outer s H vs Q E hr h => ?_, hm, F.kp, F.bindsN hb⟩
  obtain ⟨t, h1, h2⟩ := hbody f cdv A outer s H vs Q E hr h
  exact ⟨t, h1.nox, h2⟩
/-- .. that may raise -/
theorem calX (D : Dfn K mg x st) (S : FnScope N ps (defScope st))
    (hb : ∀ (kV doc pm : Value) (an : Option Addr) (cdv ct : Value) (us : List Value), us.length = ps.length → bindArgs (PySem.W.fnOf x x (defArgs st) (defBody st) (defScope st) .none kV doc pm an cdv ct) ⟨us, []⟩ = pure (ps.zip us))
    (len : ∀ vs H Q E, sp vs H Q E → vs.length = ps.length)
    (hbody : ∀ (f : Addr) (cdv : Value) (A : Around) (outer : List Env) (s : Shared) (H : Hp) (vs : List V) (Q : VK) (E : XK), Room k (A.deeper (envOfC x (defScope st) s.heap.objs.size f cdv)) → sp vs H Q E →
      ∃ t, PSs (cxOf (L2.CX P w) P w K mg base N x (defScope st) f cdv A outer s H E) (defBody st) t ∧ t { nx := fun _ H' => Q .non H', rt := Q } (start N vs) H) : Cal P w K mg base (L2.CX P w) x (k + 1) ps sp := by
  obtain ⟨f, fd, F, hm⟩ := D
  exact ⟨f, fd, F.ok S len fun cdv A outer s H vs Q E hr h => hbody f cdv A outer s H vs Q E hr h, hm, F.kp, F.bindsN hb⟩
end
/-! ### loops -/
section
variable {K : PySem.W.Frag} {σ : L2.St} {H : Hp} {D : Ends} {t : TS} {tt : TT} {p : Addr} {xs : List V}
theorem x_for {wi : TI} {g : TG} {tb : TS} (h : wi σ H fun J H1 => ∃ W : Nat → Nat → L2.St → Hp → Prop, (∃ m, W 0 m σ H1) ∧ ∀ i m σ H, W i m σ H →
  (J.stop i H ∧ D.nx σ H) ∨ (J.go i H ∧ ∃ N : L2.St → Hp → Prop, (∀ σ' H', N σ' H' → ∃ m', m' < m ∧ W (i + 1) m' σ' H') ∧ ∀ x H', J.yld i H x H' → g x σ H' fun σ2 H2 => tb { D with nx := N, ct := N, bk := D.nx } σ2 H2)) : tFor wi g tb D σ H := h
theorem x_iList {tl : TE} {R : It → Hp → Prop} (h : tl σ H fun x H1 => ∃ a, x = .ref a ∧ (∃ xs, SqL K H1 a xs) ∧ R (Itl K a) H1) : iList K tl σ H R := h
theorem x_il {R : Addr → Prop} (h : H p = some (.lst xs)) (k : R p) : ∃ a, V.ref p = .ref a ∧ (∃ xs, SqL K H a xs) ∧ R a := ⟨p, rfl, ⟨xs, SqL.of h⟩, k⟩
theorem x_iRev {ta : TA} {R : It → Hp → Prop} (h : ta σ H fun vs H1 => ∃ (a : Addr) (xs : List V), vs = [.ref a] ∧ SqL K H1 a xs ∧ R (Itv K a xs.length) H1) : iRev K ta σ H R := h
theorem x_rv {R : Addr → List V → Prop} (h : H p = some (.lst xs)) (k : R p xs) : ∃ (a : Addr) (ys : List V), [V.ref p] = [.ref a] ∧ SqL K H a ys ∧ R a ys := ⟨p, xs, rfl, SqL.of h, k⟩
theorem x_iR1 {ta : TA} {R : It → Hp → Prop} (h : ta σ H fun vs H1 => ∃ j : Int, vs = [.int j] ∧ -(2 ^ 62) ≤ j ∧ j < 2 ^ 62 ∧ R (Itr 0 j.toNat) H1) : iRng1 ta σ H R := h
theorem x_r1 {j : Int} {R : Int → Prop} (h : -100000000 ≤ j ∧ j ≤ 100000000) (k : R j) : ∃ i : Int, [V.int j] = [.int i] ∧ -(2 ^ 62) ≤ i ∧ i < 2 ^ 62 ∧ R i := ⟨j, rfl, by omega, by omega, k⟩
theorem x_iR3 {ta : TA} {R : It → Hp → Prop} (h : ta σ H fun vs H1 => ∃ (i j c : Int) (n : Nat), vs = [.int i, .int j, .int c] ∧ RgC i j c n ∧ R (Itc i c n) H1) : iRng3 ta σ H R := h
theorem x_rdown {i : Int} {R : Int → Int → Nat → Prop} (h : -1 ≤ i ∧ i ≤ 100000000) (k : R i (-1) (i + 1).toNat) : ∃ (a j c : Int) (n : Nat), [V.int i, V.int (-1), V.int (-1)] = [.int a, .int j, .int c] ∧ RgC a j c n ∧ R a c n :=
  ⟨i, -1, -1, _, rfl, RgC.neg (by omega) (by omega) (by decide) (by decide), by
    have e : i - -1 = i + 1 := by omega
    rw [e]; exact k⟩
theorem x_while (W : Nat → L2.St → Hp → Prop) (m : Nat) (h0 : W m σ H) (hs : ∀ m σ H, W m σ H →
  tt σ H fun b H1 => if b = true then ∃ N : L2.St → Hp → Prop, (∀ σ' H', N σ' H' → ∃ m', m' < m ∧ W m' σ' H') ∧ t { D with nx := N, ct := N, bk := D.nx } σ H1 else D.nx σ H1) : tWhile tt t D σ H := ⟨W, ⟨m, h0⟩, hs⟩
theorem x_turn {W : Nat → L2.St → Hp → Prop} {m : Nat} (h : t { D with nx := fun σ2 H2 => ∃ m', m' < m ∧ W m' σ2 H2, ct := fun σ2 H2 => ∃ m', m' < m ∧ W m' σ2 H2, bk := D.nx } σ H) :
  ∃ N : L2.St → Hp → Prop, (∀ σ' H', N σ' H' → ∃ m', m' < m ∧ W m' σ' H') ∧ t { D with nx := N, ct := N, bk := D.nx } σ H := ⟨_, fun _ _ h => h, h⟩
theorem x_iEn {ta : TA} {R : It → Hp → Prop} (h : ta σ H fun vs H1 => ∃ a xs, vs = [.ref a] ∧ SqL K H1 a xs ∧ R (Ite K a) H1) : iEnum K ta σ H R := h
theorem x_en {R : Addr → Prop} (h : H p = some (.lst xs)) (k : R p) : ∃ a ys, [V.ref p] = [.ref a] ∧ SqL K H a ys ∧ R a := ⟨p, xs, rfl, SqL.of h, k⟩
end
/-! ### kinds of values: the whole numbers among all -/
inductive Kd (H : Hp) : V → Option Int → Prop where
  | int (i : Int) : Kd H (.int i) (some i)
  | bl (b : Bool) : Kd H (.bl b) none
  | str (x : Str) : Kd H (.str x) none
  | non : Kd H .non none
  | lst {a : Addr} {xs : List V} (e : H a = some (.lst xs)) : Kd H (.ref a) none
  | tup {a : Addr} {xs : List V} (e : H a = some (.tup xs)) : Kd H (.ref a) none
  | dK {a : Addr} {kvs : List (Key × V)} (e : H a = some (.dK kvs)) : Kd H (.ref a) none
theorem Kd.mono {H H' : Hp} {x : V} {o : Option Int} (k : Kd H x o) (s : Same H H') : Kd H' x o := by
  cases k with
  | int i => exact .int i
  | bl b => exact .bl b
  | str x => exact .str x
  | non => exact .non
  | lst e => exact .lst (s _ _ e)
  | tup e => exact .tup (s _ _ e)
  | dK e => exact .dK (s _ _ e)
/-- its type, and what isinstance says of int and of bool -/
theorem Kd.ty {K : PySem.W.Frag} {H : Hp} {x : V} {o : Option Int} (k : Kd H x o) : ∃ t, TyX K H x (.type t) ∧ ((o.isSome = true ∧ kitB t "int" = some true ∧ kitB t "bool" = some false) ∨ (o.isSome = false ∧ kitB t "int" = some false) ∨ (o.isSome = false ∧ kitB t "int" = some true ∧ kitB t "bool" = some true)) := by
  cases k with
  | int i => exact ⟨"int", .base (.int i), .inl ⟨rfl, by decide +kernel, by decide +kernel⟩⟩
  | bl b => exact ⟨"bool", .base (.bl b), .inr (.inr ⟨rfl, by decide +kernel, by decide +kernel⟩)⟩
  | str x => exact ⟨"str", .base (.str x), .inr (.inl ⟨rfl, by decide +kernel⟩)⟩
  | non => exact ⟨"NoneType", .base .non, .inr (.inl ⟨rfl, by decide +kernel⟩)⟩
  | lst e => exact ⟨"list", .base (.lst e), .inr (.inl ⟨rfl, by decide +kernel⟩)⟩
  | tup e => exact ⟨"tuple", .base (.tup e), .inr (.inl ⟨rfl, by decide +kernel⟩)⟩
  | dK e => exact ⟨"dict", .base (.dK e), .inr (.inl ⟨rfl, by decide +kernel⟩)⟩
/-- no list -/
inductive NoL (H : Hp) : V → Prop where
  | int (i : Int) : NoL H (.int i)
  | bl (b : Bool) : NoL H (.bl b)
  | str (x : Str) : NoL H (.str x)
  | non : NoL H .non
  | tup {a : Addr} {xs : List V} (e : H a = some (.tup xs)) : NoL H (.ref a)
  | dK {a : Addr} {kvs : List (Key × V)} (e : H a = some (.dK kvs)) : NoL H (.ref a)
theorem NoL.mono {H H' : Hp} {x : V} (k : NoL H x) (s : Same H H') : NoL H' x := by
  cases k with
  | int i => exact .int i
  | bl b => exact .bl b
  | str x => exact .str x
  | non => exact .non
  | tup e => exact .tup (s _ _ e)
  | dK e => exact .dK (s _ _ e)
theorem NoL.ty {K : PySem.W.Frag} {H : Hp} {x : V} (k : NoL H x) : ∃ t, TyX K H x (.type t) ∧ kitB t "list" = some false := by
  cases k with
  | int i => exact ⟨"int", .base (.int i), by decide +kernel⟩
  | bl b => exact ⟨"bool", .base (.bl b), by decide +kernel⟩
  | str x => exact ⟨"str", .base (.str x), by decide +kernel⟩
  | non => exact ⟨"NoneType", .base .non, by decide +kernel⟩
  | tup e => exact ⟨"tuple", .base (.tup e), by decide +kernel⟩
  | dK e => exact ⟨"dict", .base (.dK e), by decide +kernel⟩
theorem x_isi {K : PySem.W.Frag} {H : Hp} {Q : VK} {x : V} {t n : String} {b : Bool} (ty : TyX K H x (.type t)) (kb : kitB t n = some b) (k : Q (.bl b) H) : rIsi K [x, .ty n] H Q := ⟨x, .ty n, _, _, b, rfl, .ty n, ty, kit_ty kb, k⟩
theorem x_isiL {K : PySem.W.Frag} {H : Hp} {Q : VK} {p : Addr} {xs : List V} (h : H p = some (.lst xs)) (k : Q (.bl true) H) : rIsi K [.ref p, .ty "list"] H Q := x_isi (.base (.lst h)) (by decide +kernel) k
theorem x_isiT {K : PySem.W.Frag} {H : Hp} {Q : VK} {p : Addr} {xs : List V} (h : H p = some (.tup xs)) (k : Q (.bl true) H) : rIsi K [.ref p, .ty "tuple"] H Q := x_isi (.base (.tup h)) (by decide +kernel) k
theorem x_isiI {K : PySem.W.Frag} {H : Hp} {Q : VK} {i : Int} (k : Q (.bl true) H) : rIsi K [.int i, .ty "int"] H Q := x_isi (.base (.int i)) (by decide +kernel) k

/-! ### == of lists of numbers -/
def pdI (l : List Nat) : PyData := .list (l.map fun (n : Nat) => PyData.int (n : Int))
section
variable {K : PySem.W.Frag} {H : Hp} {Q : VK} {p q : Addr} {l m : List Nat}
theorem dpAll_iv : ∀ l : List Nat, DpAll K H (iv l) (l.map fun (n : Nat) => PyData.int (n : Int))
  | [] => .nil
  | x :: l => .cons (.int _) (dpAll_iv l)
theorem dp_iv (h : H p = some (.lst (iv l))) : Dp K H (.ref p) (pdI l) := .lst (SqL.of h) (dpAll_iv l)
theorem canLay_ints : ∀ l : List Nat, PyData.canLayAll0 (l.map fun (n : Nat) => PyData.int (n : Int)) = true
  | [] => rfl
  | x :: l => by
    show (PyData.canLay0 (.int _) && PyData.canLayAll0 (l.map _)) = true
    rw [canLay_ints l]
    rfl
theorem depth_ints : ∀ l : List Nat, PyData.depthAll (l.map fun (n : Nat) => PyData.int (n : Int)) = 0
  | [] => rfl
  | x :: l => by
    show max (PyData.depth (.int _)) (PyData.depthAll (l.map _)) = 0
    rw [depth_ints l]
    rfl
theorem canLay_pdI (l : List Nat) : (pdI l).canLay0 = true := by
  show PyData.canLayAll0 _ = true
  exact canLay_ints l
theorem depth_pdI (l : List Nat) : (pdI l).depth = 1 := by
  show PyData.depthAll _ + 1 = 1
  rw [depth_ints]
theorem shaped_pdI (l : List Nat) : SeqAt.shaped (pdI l) = true := by
  unfold SeqAt.shaped
  rw [canLay_pdI, depth_pdI]
  rfl
theorem eqv_ints : ∀ l m : List Nat, PyData.eqvAll (l.map fun (n : Nat) => PyData.int (n : Int)) (m.map fun (n : Nat) => PyData.int (n : Int)) = decide (l = m)
  | [], [] => by
    rw [decide_eq_true rfl]
    rfl
  | [], y :: m => by
    rw [decide_eq_false (fun z => nomatch z)]
    rfl
  | x :: l, [] => by
    rw [decide_eq_false (fun z => nomatch z)]
    rfl
  | x :: l, y :: m => by
    show (PyData.eqv (.int _) (.int _) && PyData.eqvAll (l.map _) (m.map _)) = _
    rw [eqv_ints l m]
    show (((x : Int) == (y : Int)) && decide (l = m)) = _
    by_cases h : x = y
    · subst h
      rw [beq_self_eq_true, Bool.true_and]
      by_cases h2 : l = m
      · rw [decide_eq_true h2, decide_eq_true (by rw [h2])]
      · rw [decide_eq_false h2, decide_eq_false (fun z => h2 (List.cons.inj z).2)]
    · have e : ((x : Int) == (y : Int)) = false := beq_eq_false_iff_ne.mpr (fun z => h (by omega))
      rw [e, Bool.false_and, decide_eq_false (fun z => h (List.cons.inj z).1)]
theorem eqv_pdI (l m : List Nat) : PyData.eqv (pdI l) (pdI m) = decide (l = m) := by
  show PyData.eqvAll _ _ = _
  exact eqv_ints l m
theorem x_eqL (h1 : H p = some (.lst (iv l))) (h2 : H q = some (.lst (iv m))) (k : Q (.bl (decide (l = m))) H) : rEqD K (.ref p) (.ref q) H Q :=
  ⟨pdI l, pdI m, dp_iv h1, dp_iv h2, shaped_pdI l, shaped_pdI m, by rw [eqv_pdI]; exact k⟩
theorem x_neL (h1 : H p = some (.lst (iv l))) (h2 : H q = some (.lst (iv m))) (k : Q (.bl (!decide (l = m))) H) : rNeD K (.ref p) (.ref q) H Q :=
  ⟨pdI l, pdI m, dp_iv h1, dp_iv h2, shaped_pdI l, shaped_pdI m, by rw [eqv_pdI]; exact k⟩
end
/-! ### pairs, enumerate -/
section
variable {K : PySem.W.Frag} {σ : L2.St} {H : Hp} {D : Ends} {p : Addr} {v w : V}
theorem x_par {i j : Nat} {ta : TA} (h : ta σ H fun vs H1 => ∃ v w, vs = [v, w] ∧ D.nx ((σ.set i (some v)).set j (some w)) H1) : tPar i j ta D σ H := h
theorem x_pair {R : V → V → Prop} (h : R v w) : ∃ x y, [v, w] = [x, y] ∧ R x y := ⟨v, w, rfl, h⟩
theorem x_tup2 {i j n : Nat} {R : L2.St → Hp → Prop} (h : H p = some (.tup [v, w])) (hn : 2 = n) (k : R ((σ.set i (some v)).set j (some w)) H) : gTup K n (gCons (gName i) (gCons (gName j) gNil)) (.ref p) σ H R :=
  ⟨p, [v, w], rfl, SqT.of h, hn, v, [w], rfl, w, [], rfl, rfl, k⟩
theorem for_en {a : Addr} {xs : List V} {g : TG} {tb : TS} (Pv : Nat → L2.St → Hp → Prop) (h0 : Pv 0 σ H) (hq : ∀ i σ H, Pv i σ H → SqL K H a xs)
    (hs : ∀ (i : Nat) (x : V) (σ : L2.St) (H : Hp), xs[i]? = some x → Pv i σ H → ∀ t, H t = none → g (.ref t) σ (upd H t (.tup [.int (i : Int), x])) fun σ2 H2 => tb { D with nx := Pv (i + 1), ct := Pv (i + 1), bk := D.nx } σ2 H2) (hd : ∀ σ H, Pv xs.length σ H → D.nx σ H) :
    ∃ W : Nat → Nat → L2.St → Hp → Prop, (∃ m, W 0 m σ H) ∧ ∀ i m σ H, W i m σ H →
      ((Ite K a).stop i H ∧ D.nx σ H) ∨ ((Ite K a).go i H ∧ ∃ N : L2.St → Hp → Prop, (∀ σ' H', N σ' H' → ∃ m', m' < m ∧ W (i + 1) m' σ' H') ∧ ∀ x H', (Ite K a).yld i H x H' → g x σ H' fun σ2 H2 => tb { D with nx := N, ct := N, bk := D.nx } σ2 H2) := by
  refine ⟨fun i m σ H => m = xs.length - i ∧ i ≤ xs.length ∧ Pv i σ H, ⟨xs.length, rfl, Nat.zero_le _, h0⟩, ?_⟩
  rintro i m σ H ⟨rfl, hi, p⟩
  have q := hq i σ H p
  by_cases hlt : i < xs.length
  · refine .inr ⟨⟨xs, xs[i], q, List.getElem?_eq_getElem hlt⟩, Pv (i + 1), fun σ' H' p' => ⟨xs.length - (i + 1), by omega, rfl, hlt, p'⟩, fun x H' y => ?_⟩
    obtain ⟨T, u, rfl, hT, rfl, hy⟩ := y
    exact hs i u σ H (hy xs q) p T hT
  · have e : i = xs.length := by omega
    subst e
    exact .inl ⟨⟨xs, q, Nat.le_refl _⟩, hd σ H p⟩
theorem x_rep {Q : VK} {k : Nat} (h : H p = some (.lst [v])) (hk : k ≤ 100000) (q : ∀ d, H d = none → Q (.ref d) (upd H d (.lst (List.replicate k v)))) : rRep (.ref p) (.int (k : Int)) H Q := by
  refine ⟨p, k, [v], rfl, rfl, h, by omega, by omega, ?_, fun d hd => ?_⟩
  · show 1 * (k : Int).toNat ≤ sizeLine
    have : (100000 : Nat) ≤ sizeLine := by decide
    omega
  · have e : (List.replicate (k : Int).toNat [v]).flatten = List.replicate k v := by
      rw [Int.toNat_natCast]
      induction k with
      | zero => rfl
      | succ k ih =>
        rw [List.replicate_succ, List.flatten_cons, List.replicate_succ]
        show v :: (List.replicate k [v]).flatten = v :: List.replicate k v
        congr 1
        clear ih q hk
        induction k with
        | zero => rfl
        | succ k ih =>
          rw [List.replicate_succ, List.flatten_cons, List.replicate_succ, ← ih]
          rfl
    rw [e]
    exact q d hd
theorem sz {n : Nat} (h : n ≤ 100000) : n ≤ sizeLine := Nat.le_trans h (by decide)
theorem iv_replicate (k x : Nat) : List.replicate k (V.int (x : Int)) = iv (List.replicate k x) := by
  unfold iv
  rw [List.map_replicate]
end
/-! ### is True, is False, of anything -/
def rIsG : R2 := fun x y H Q => ∃ b : Bool, y = .bl b ∧ Q (.bl (decide (x = .bl b))) H
def rNotG : R2 := fun x y H Q => ∃ b : Bool, y = .bl b ∧ Q (.bl (!decide (x = .bl b))) H
theorem is_bool_gen {M : Model} {A : Around} {E : Value → Shared → Prop} {s : Shared} {Q : Value → Shared → Prop} {x : V} {v : Value} {d : Bool} (r : RelV x v) (h : Q (.bool (decide (x = .bl d))) s) : wpAny M A (compareOp .Is v (.bool d)) Q E s := by
  cases x with
  | non => cases (show v = Value.none from r); exact wpAny_pure (a := Value.bool (Value.none == Value.bool d)) h
  | bl b =>
    cases (show v = Value.bool b from r)
    refine is_bool ?_
    have e : decide (V.bl b = .bl d) = (b == d) := dec_bl
    rw [e] at h
    exact h
  | int i => obtain ⟨t, rfl⟩ := (show ∃ t, v = Value.int i t from r); exact wpAny_pure (a := Value.bool (Value.int i t == Value.bool d)) h
  | str i => obtain ⟨t, rfl⟩ := (show ∃ t, v = Value.str i t from r); exact wpAny_pure (a := Value.bool (Value.str i t == Value.bool d)) h
  | byt i => obtain ⟨t, rfl⟩ := (show ∃ t, v = Value.bytes i t from r); exact wpAny_pure (a := Value.bool (Value.bytes i t == Value.bool d)) h
  | flt i => obtain ⟨t, rfl⟩ := (show ∃ t, v = Value.float i t from r); exact wpAny_pure (a := Value.bool (Value.float i t == Value.bool d)) h
  | ref i => cases (show v = Value.ref i from r); exact wpAny_pure (a := Value.bool (Value.ref i == Value.bool d)) h
  | ty i => cases (show v = Value.type i from r); exact wpAny_pure (a := Value.bool (Value.type i == Value.bool d)) h
theorem isnot_bool_gen {M : Model} {A : Around} {E : Value → Shared → Prop} {s : Shared} {Q : Value → Shared → Prop} {x : V} {v : Value} {d : Bool} (r : RelV x v) (h : Q (.bool (!decide (x = .bl d))) s) : wpAny M A (compareOp .IsNot v (.bool d)) Q E s := by
  cases x with
  | non => cases (show v = Value.none from r); exact wpAny_pure (a := Value.bool (!(Value.none == Value.bool d))) h
  | bl b =>
    cases (show v = Value.bool b from r)
    refine isnot_bool ?_
    have e : decide (V.bl b = .bl d) = (b == d) := dec_bl
    rw [e] at h
    exact h
  | int i => obtain ⟨t, rfl⟩ := (show ∃ t, v = Value.int i t from r); exact wpAny_pure (a := Value.bool (!(Value.int i t == Value.bool d))) h
  | str i => obtain ⟨t, rfl⟩ := (show ∃ t, v = Value.str i t from r); exact wpAny_pure (a := Value.bool (!(Value.str i t == Value.bool d))) h
  | byt i => obtain ⟨t, rfl⟩ := (show ∃ t, v = Value.bytes i t from r); exact wpAny_pure (a := Value.bool (!(Value.bytes i t == Value.bool d))) h
  | flt i => obtain ⟨t, rfl⟩ := (show ∃ t, v = Value.float i t from r); exact wpAny_pure (a := Value.bool (!(Value.float i t == Value.bool d))) h
  | ref i => cases (show v = Value.ref i from r); exact wpAny_pure (a := Value.bool (!(Value.ref i == Value.bool d))) h
  | ty i => cases (show v = Value.type i from r); exact wpAny_pure (a := Value.bool (!(Value.type i == Value.bool d))) h
section
variable {X : Cx}
theorem op_isG : OpR X (compareOp .Is) rIsG := by
  intro pins s σ H x y v u Q I rx ry h
  obtain ⟨b, rfl, q⟩ := h
  cases (show u = Value.bool b from ry)
  exact is_bool_gen rx ⟨.bl _, H, I, rfl, q⟩
theorem op_notG : OpR X (compareOp .IsNot) rNotG := by
  intro pins s σ H x y v u Q I rx ry h
  obtain ⟨b, rfl, q⟩ := h
  cases (show u = Value.bool b from ry)
  exact isnot_bool_gen rx ⟨.bl _, H, I, rfl, q⟩
end
theorem x_isG {H : Hp} {Q : VK} {x : V} {b : Bool} (q : Q (.bl (decide (x = .bl b))) H) : rIsG x (.bl b) H Q := ⟨b, rfl, q⟩
theorem x_notG {H : Hp} {Q : VK} {x : V} {b : Bool} (q : Q (.bl (!decide (x = .bl b))) H) : rNotG x (.bl b) H Q := ⟨b, rfl, q⟩
/-- an if without else whose one store is a name: what follows is shown once, for every value it may have -/
theorem x_ifJ {σ : L2.St} {H : Hp} {D : Ends} {tt : TT} {tu : TS} (i : Nat) (W : V → Prop) (k : ∀ v H', Same H H' → W v → D.nx (σ.set i (some v)) H') (h : ∀ R : L2.St → Hp → Prop, (∀ v H', Same H H' → W v → R (σ.set i (some v)) H') → tIfS tt tu tNext { D with nx := R } σ H) : tIfS tt tu tNext D σ H := h D.nx k
theorem Trk.take {H0 H : Hp} {L : List (Addr × HO)} (T : Trk H0 H L) (k : Nat) : Trk H0 H (L.take k) := ⟨T.same, fun p hp => T.new p (List.mem_of_mem_take hp), by
  rw [List.map_take]
  exact List.Nodup.sublist (List.take_sublist _ _) T.nd, fun p hp => T.at_ p (List.mem_of_mem_take hp)⟩
theorem cut_last {xs : List V} {v : V} : cutV (xs ++ [v]) none (some (-1)) = xs := by
  unfold cutV
  rw [HT.sIx_none]
  have e : HT.sIx (xs ++ [v]).length (xs ++ [v]).length (some (-1)) = xs.length := by
    unfold HT.sIx
    rw [List.length_append, List.length_singleton]
    simp only []
    split <;> omega
  rw [e, Nat.sub_zero, List.drop_zero, List.take_left]
theorem top_nat (b t x : Nat) : (t : Int) * (b : Int) + (x : Int) = ((x + b * t : Nat) : Int) := by
  rw [Int.natCast_add, Int.natCast_mul, Int.mul_comm, Int.add_comm]

/-! ### objects laid while T is told on -/
section
variable {K : PySem.W.Frag} {H0 H : Hp} {L : List (Addr × HO)} {Q : VK} {xs : List V} {o : HO}
theorem t_new (T : Trk H0 H L) (hz : xs.length ≤ 100000) (k : ∀ d, Trk H0 (upd H d (.lst xs)) ((d, .lst xs) :: L) → Q (.ref d) (upd H d (.lst xs))) : rNewL xs H Q := ⟨sz hz, fun d hd => k d (T.lay hd)⟩
theorem t_tup (T : Trk H0 H L) (hz : xs.length ≤ 100000) (k : ∀ d, Trk H0 (upd H d (.tup xs)) ((d, .tup xs) :: L) → Q (.ref d) (upd H d (.tup xs))) : rNewT xs H Q := ⟨sz hz, fun d hd => k d (T.lay hd)⟩
theorem t_list {p : Addr} (T : Trk H0 H L) (h : H p = some (.lst xs)) (k : ∀ d, Trk H0 (upd H d (.lst xs)) ((d, .lst xs) :: L) → Q (.ref d) (upd H d (.lst xs))) : rList1 K [.ref p] H Q := x_list h fun d hd => k d (T.lay hd)
theorem t_cut {p : Addr} {lo hi : Option Int} (T : Trk H0 H L) (h : H p = some (.lst xs)) (k : ∀ d, Trk H0 (upd H d (.lst (cutV xs lo hi))) ((d, .lst (cutV xs lo hi)) :: L) → Q (.ref d) (upd H d (.lst (cutV xs lo hi)))) : rSlL K (.ref p) lo hi H Q := x_cut h fun d hd => k d (T.lay hd)
theorem t_cat {p q : Addr} {ys : List V} (T : Trk H0 H L) (h1 : H p = some (.lst xs)) (h2 : H q = some (.lst ys)) (hz : xs.length + ys.length ≤ 100000) (k : ∀ d, Trk H0 (upd H d (.lst (xs ++ ys))) ((d, .lst (xs ++ ys)) :: L) → Q (.ref d) (upd H d (.lst (xs ++ ys)))) : rCat (.ref p) (.ref q) H Q := x_cat h1 h2 hz fun d hd => k d (T.lay hd)
theorem t_rep {p : Addr} {v : V} {i : Nat} (T : Trk H0 H L) (h : H p = some (.lst [v])) (hk : i ≤ 100000) (k : ∀ d, Trk H0 (upd H d (.lst (List.replicate i v))) ((d, .lst (List.replicate i v)) :: L) → Q (.ref d) (upd H d (.lst (List.replicate i v)))) : rRep (.ref p) (.int (i : Int)) H Q := x_rep h hk fun d hd => k d (T.lay hd)
/-- a promise of a list, of a value, while T is told on -/
theorem t_retL (T : Trk H0 H L) (k : ∀ p H', Trk H0 H' ((p, .lst xs) :: L) → Q (.ref p) H') : RetL xs H Q := fun p H' hp s h => k p H' (T.add s hp h)
theorem t_retV {v : V} (T : Trk H0 H L) (k : ∀ H', Trk H0 H' L → Q v H') : RetV v H Q := fun H' s => k H' (T.call s)
theorem t_retP {v : V} (T : Trk H0 H L) (k : ∀ t p H', Trk H0 H' ((t, .tup [.ref p, v]) :: (p, .lst xs) :: L) → Q (.ref t) H') : RetP xs v H Q := fun t p H' ht hp ne s h1 h2 => by
  refine k t p H' ⟨T.same.trans s, fun q hq => ?_, ?_, fun q hq => ?_⟩
  · rcases List.mem_cons.mp hq with rfl | hq
    · exact T.same.free ht
    · exact (T.add s hp h1).new q hq
  · rw [List.map_cons]
    refine List.nodup_cons.mpr ⟨fun hm => ?_, (T.add s hp h1).nd⟩
    rw [List.map_cons] at hm
    rcases List.mem_cons.mp hm with e | hm
    · exact ne e
    · obtain ⟨q, hq, e⟩ := List.mem_map.mp hm
      have := T.at_ q hq
      rw [e] at this
      rw [show H t = none from ht] at this
      cases this
  · rcases List.mem_cons.mp hq with rfl | hq
    · exact h2
    · exact (T.add s hp h1).at_ q hq
theorem t_retPP {ys : List V} (T : Trk H0 H L) (k : ∀ t p q H', Trk H0 H' ((t, .tup [.ref p, .ref q]) :: (p, .lst xs) :: (q, .lst ys) :: L) → Q (.ref t) H') : RetPP xs ys H Q := fun t p q H' ht hp hq n1 n2 n3 s h1 h2 h3 => by
  have T1 := T.add s hq h2
  have ne : ∀ (a : Addr), H a = none → ∀ r ∈ L, r.1 ≠ a := fun a ha r hr e => by
    have := T.at_ r hr
    rw [e, show H a = none from ha] at this
    cases this
  refine k t p q H' ⟨T.same.trans s, fun r hr => ?_, ?_, fun r hr => ?_⟩
  · rcases List.mem_cons.mp hr with rfl | hr
    · exact T.same.free ht
    · rcases List.mem_cons.mp hr with rfl | hr
      · exact T.same.free hp
      · exact T1.new r hr
  · rw [List.map_cons, List.map_cons]
    refine List.nodup_cons.mpr ⟨fun hm => ?_, List.nodup_cons.mpr ⟨fun hm => ?_, T1.nd⟩⟩
    · rcases List.mem_cons.mp hm with e | hm
      · exact n1 e
      · rw [List.map_cons] at hm
        rcases List.mem_cons.mp hm with e | hm
        · exact n2 e
        · obtain ⟨r, hr, e⟩ := List.mem_map.mp hm
          exact ne t ht r hr e
    · rw [List.map_cons] at hm
      rcases List.mem_cons.mp hm with e | hm
      · exact n3 e
      · obtain ⟨r, hr, e⟩ := List.mem_map.mp hm
        exact ne p hp r hr e
  · rcases List.mem_cons.mp hr with rfl | hr
    · exact h3
    · rcases List.mem_cons.mp hr with rfl | hr
      · exact h1
      · exact T1.at_ r hr
theorem t_app {i : Nat} {p : Addr} {v : V} (T : Trk H0 H L) (e : L[i]? = some (p, .lst xs)) (hz : xs.length < 100000) (k : Trk H0 (upd H p (.lst (xs ++ [v]))) (L.set i (p, .lst (xs ++ [v]))) → Q .non (upd H p (.lst (xs ++ [v])))) : rAppend (.ref p) [v] H Q :=
  x_app (T.get e) hz (k (T.mut i e))
end
/-! ### lengths -/
theorem digits_len_add {b n m k : Nat} (hb : 2 ≤ b) (h1 : (digits b n).length ≤ k) (h2 : (digits b m).length ≤ k) : (digits b (n + m)).length ≤ k + 1 := by
  refine digits_len_le hb ?_
  have a1 := (digits_len_lt hb).mp h1
  have a2 := (digits_len_lt hb).mp h2
  have a3 : b ^ k * 2 ≤ b ^ (k + 1) := by
    rw [Nat.pow_succ]
    exact Nat.mul_le_mul_left _ hb
  omega
theorem digits_len_mul {b n m k j : Nat} (hb : 2 ≤ b) (h1 : (digits b n).length ≤ k) (h2 : (digits b m).length ≤ j) : (digits b (n * m)).length ≤ k + j := by
  refine digits_len_le hb ?_
  have a1 := (digits_len_lt hb).mp h1
  have a2 := (digits_len_lt hb).mp h2
  rw [Nat.pow_add]
  have p1 : 0 < b ^ k := Nat.pow_pos (by omega)
  have p2 : 0 < b ^ j := Nat.pow_pos (by omega)
  rcases Nat.eq_zero_or_pos m with h | h
  · rw [h, Nat.mul_zero]
    exact Nat.mul_pos p1 p2
  · calc n * m < b ^ k * m := Nat.mul_lt_mul_of_pos_right a1 h
      _ ≤ b ^ k * b ^ j := Nat.mul_le_mul_left _ (Nat.le_of_lt a2)
theorem fn0 {P : Program} {w : World} {K : PySem.W.Frag} {mg : Str → Option Value} {base : Heap} {x : Str} {st : Stmt} {N ps : List Str} {k : Nat} {sp : Sp} {f : Addr} {fd : FuncData} (F : FunD K x x (defArgs st) (defBody st) (defScope st) [] [] f fd) (S : FnScope N ps (defScope st))
    (len : ∀ vs H Q E, sp vs H Q E → vs.length = ps.length)
    (hbody : ∀ (cdv : Value) (A : Around) (outer : List Env) (s : Shared) (H : Hp) (vs : List V) (Q : VK) (E : XK), Room k (A.deeper (envOfC x (defScope st) s.heap.objs.size f cdv)) → sp vs H Q E →
      ∃ t, PSs (cxOf CX0 P w K mg base N x (defScope st) f cdv A outer s H E).nox (defBody st) t ∧ t { nx := fun _ H' => Q .non H', rt := Q } (start N vs) H) : FnOk P w K mg base CX0 (k + 1) f fd ps sp := by
  refine F.ok S len fun cdv A outer s H vs Q E hr h => ?_
  obtain ⟨t, h1, h2⟩ := hbody cdv A outer s H vs Q E hr h
  exact ⟨t, h1.nox, h2⟩
/-- the law's promise -/
def spLaw (K : PySem.W.Frag) : Sp := fun vs H Q _ => ∃ (a : Addr) (ns : List Int), vs = [.ref a] ∧ SqL K H a (ns.map V.int) ∧ ∀ H', Q (.bl true) H'
theorem Dfn.of {K : PySem.W.Frag} {mg : Str → Option Value} {h : Heap} {x : Str} {st : Stmt} {fa : List He.Fa} {fn : List He.DefD} (c : He.SaysD fa fn K) (X : K.In h) (G : h.Ns mainGlobals mg) (i j : Nat) (hi : fn[i]? = some ⟨(x, none), x, x, defArgs st, defBody st, defScope st, [], []⟩) (hj : fa[j]? = some (.glo x)) : Dfn K mg x st := by
  obtain ⟨fd, F⟩ := c.def_ i hi
  exact ⟨_, fd, F, He.glo_ok X G (c.fact j hj)⟩
theorem free_of {K : PySem.W.Frag} {mg : Str → Option Value} {h : Heap} {x : Str} {fa : List He.Fa} {fn : List He.DefD} (c : He.SaysD fa fn K) (X : K.In h) (G : h.Ns mainGlobals mg) (j : Nat) (hj : fa[j]? = some (.free x)) : mg x = none := He.free_ok X G (c.fact j hj)
theorem int_of {K : PySem.W.Frag} {mg : Str → Option Value} {h : Heap} {x : Str} {i : Int} {fa : List He.Fa} {fn : List He.DefD} (c : He.SaysD fa fn K) (X : K.In h) (G : h.Ns mainGlobals mg) (j : Nat) (hj : fa[j]? = some (.int x i)) : ∃ t, mg x = some (.int i t) := He.int_ok X G (c.fact j hj)
/-! ### joins, picks -/
theorem x_mid {σ : L2.St} {H : Hp} {D : Ends} {t : TS} (Mid : L2.St → Hp → Prop) (h : ∀ R : L2.St → Hp → Prop, (∀ σ' H', Mid σ' H' → R σ' H') → t { D with nx := R } σ H) (k : ∀ σ' H', Mid σ' H' → D.nx σ' H') : t D σ H := h D.nx k
section
variable {H0 H : Hp} {L : List (Addr × HO)} {p q r : Addr} {o u v : HO}
theorem nd_ne {L : List (Addr × HO)} (nd : (L.map (·.1)).Nodup) {i j : Nat} {p q : Addr} {o u : HO} (e1 : L[i]? = some (p, o)) (e2 : L[j]? = some (q, u)) (hij : i ≠ j) : p ≠ q := fun z => by
  refine hij (nd_ix nd (x := p) ?_ ?_)
  · rw [List.getElem?_map, e1]
    rfl
  · rw [List.getElem?_map, e2, z]
    rfl
theorem Trk.one (T : Trk H0 H L) (i : Nat) (e : L[i]? = some (p, o)) : Trk H0 H [(p, o)] := ⟨T.same, fun x hx => by
  rw [List.mem_singleton.mp hx]
  exact T.fresh e, by
  rw [List.map_cons, List.map_nil]
  exact List.nodup_cons.mpr ⟨List.not_mem_nil, List.nodup_nil⟩, fun x hx => by
  rw [List.mem_singleton.mp hx]
  exact T.get e⟩
theorem Trk.cons (T : Trk H0 H L) (h0 : H0 p = none) (h : H p = some o) (hn : ∀ x ∈ L, x.1 ≠ p) : Trk H0 H ((p, o) :: L) := ⟨T.same, fun x hx => by
  rcases List.mem_cons.mp hx with rfl | hx
  · exact h0
  · exact T.new x hx, by
  rw [List.map_cons]
  refine List.nodup_cons.mpr ⟨fun hm => ?_, T.nd⟩
  obtain ⟨x, hx, e⟩ := List.mem_map.mp hm
  exact hn x hx e, fun x hx => by
  rcases List.mem_cons.mp hx with rfl | hx
  · exact h
  · exact T.at_ x hx⟩
theorem Trk.two (T : Trk H0 H L) (i j : Nat) (e1 : L[i]? = some (p, o)) (e2 : L[j]? = some (q, u)) (hij : i ≠ j) : Trk H0 H [(p, o), (q, u)] :=
  (T.one j e2).cons (T.fresh e1) (T.get e1) fun x hx => by
    rw [List.mem_singleton.mp hx]
    exact nd_ne T.nd e2 e1 (fun z => hij z.symm)
theorem Trk.three (T : Trk H0 H L) (i j k : Nat) (e1 : L[i]? = some (p, o)) (e2 : L[j]? = some (q, u)) (e3 : L[k]? = some (r, v)) (hij : i ≠ j) (hik : i ≠ k) (hjk : j ≠ k) : Trk H0 H [(p, o), (q, u), (r, v)] :=
  (T.two j k e2 e3 hjk).cons (T.fresh e1) (T.get e1) fun x hx => by
    rcases List.mem_cons.mp hx with rfl | hx
    · exact nd_ne T.nd e2 e1 (fun z => hij z.symm)
    · rw [List.mem_singleton.mp hx]
      exact nd_ne T.nd e3 e1 (fun z => hik z.symm)
theorem Trk.sub {L' : List (Addr × HO)} (T : Trk H0 H L) (h : L'.Sublist L) : Trk H0 H L' := ⟨T.same, fun p hp => T.new p (h.subset hp), (h.map _).nodup T.nd, fun p hp => T.at_ p (h.subset hp)⟩
theorem Trk.perm {L' : List (Addr × HO)} (T : Trk H0 H L) (h : L.Perm L') : Trk H0 H L' := ⟨T.same, fun p hp => T.new p (h.mem_iff.mpr hp), (h.map _).nodup_iff.mp T.nd, fun p hp => T.at_ p (h.mem_iff.mpr hp)⟩
theorem Trk.comp {H1 : Hp} {M : List (Addr × HO)} (T : Trk H0 H L) (T' : Trk H H1 M) : Trk H0 H1 (M ++ L) := by
  refine ⟨T.same.trans T'.same, fun p hp => ?_, ?_, fun p hp => ?_⟩
  · rcases List.mem_append.mp hp with h | h
    · cases e : H0 p.1 with
      | none => rfl
      | some o => exact absurd ((T.same _ _ e).symm.trans (T'.new p h)) (fun z => nomatch z)
    · exact T.new p h
  · rw [List.map_append]
    refine List.nodup_append.mpr ⟨T'.nd, T.nd, fun x hx y hy e => ?_⟩
    obtain ⟨u, hu, rfl⟩ := List.mem_map.mp hx
    obtain ⟨v, hv, rfl⟩ := List.mem_map.mp hy
    have h1 := T'.new u hu
    rw [e, T.at_ v hv] at h1
    cases h1
  · rcases List.mem_append.mp hp with h | h
    · exact T'.at_ p h
    · exact T'.same _ _ (T.at_ p h)
theorem Trk.four {p q r s : Addr} {o u v w : HO} (T : Trk H0 H L) (i j k l : Nat) (e1 : L[i]? = some (p, o)) (e2 : L[j]? = some (q, u)) (e3 : L[k]? = some (r, v)) (e4 : L[l]? = some (s, w)) (hij : i ≠ j) (hik : i ≠ k) (hil : i ≠ l) (hjk : j ≠ k) (hjl : j ≠ l) (hkl : k ≠ l) : Trk H0 H [(p, o), (q, u), (r, v), (s, w)] :=
  (T.three j k l e2 e3 e4 hjk hjl hkl).cons (T.fresh e1) (T.get e1) fun x hx => by
    rcases List.mem_cons.mp hx with rfl | hx
    · exact fun z => nd_ne T.nd e1 e2 hij z.symm
    rcases List.mem_cons.mp hx with rfl | hx
    · exact fun z => nd_ne T.nd e1 e3 hik z.symm
    rcases List.mem_cons.mp hx with rfl | hx
    · exact fun z => nd_ne T.nd e1 e4 hil z.symm
    cases hx
end
theorem cal_none {P : Program} {w : World} {K : PySem.W.Frag} {mg : Str → Option Value} {base : Heap} {x : Str} {st : Stmt} {ps : List Str} {k : Nat} {sp : Sp} {CX : CXT} (D : Dfn K mg x st)
    (hb : ∀ (kV doc pm : Value) (an : Option Addr) (cdv ct : Value) (us : List Value), us.length = ps.length → bindArgs (PySem.W.fnOf x x (defArgs st) (defBody st) (defScope st) .none kV doc pm an cdv ct) ⟨us, []⟩ = pure (ps.zip us))
    (hno : ∀ vs H Q E, ¬ sp vs H Q E) : Cal P w K mg base CX x k ps sp := by
  obtain ⟨f, fd, F, hm⟩ := D
  exact ⟨f, fd, ⟨fun vs H Q E h => absurd h (hno vs H Q E), fun A outer s H args us vs Q E _ _ _ _ h => absurd h (hno vs H Q E)⟩, hm, F.kp, F.bindsN hb⟩
/-- a loop over a list that leaves all as it is, but for its own name -/
theorem for_keep {K : PySem.W.Frag} {H0 H : Hp} {L : List (Addr × HO)} {σ : L2.St} {D : Ends} {tb : TS} {a : Addr} {xs : List V} {j : Nat} (T : Trk H0 H L) (ha : ∀ H', Trk H0 H' L → H' a = some (.lst xs)) (y0 : Option V) (h0 : σ.set j y0 = σ)
    (hs : ∀ (i : Nat) (x : V) (y : Option V) (H' : Hp), xs[i]? = some x → Trk H0 H' L → tb { D with nx := fun σ2 H2 => (∃ y, σ2 = σ.set j y) ∧ Trk H0 H2 L, ct := fun σ2 H2 => (∃ y, σ2 = σ.set j y) ∧ Trk H0 H2 L, bk := D.nx } (σ.set j (some x)) H') (hd : ∀ (y : Option V) (H' : Hp), Trk H0 H' L → D.nx (σ.set j y) H') :
    ∃ W : Nat → Nat → L2.St → Hp → Prop, (∃ m, W 0 m σ H) ∧ ∀ i m σ H, W i m σ H →
      ((Itl K a).stop i H ∧ D.nx σ H) ∨ ((Itl K a).go i H ∧ ∃ N : L2.St → Hp → Prop, (∀ σ' H', N σ' H' → ∃ m', m' < m ∧ W (i + 1) m' σ' H') ∧ ∀ x H', (Itl K a).yld i H x H' → gName j x σ H' fun σ2 H2 => tb { D with nx := N, ct := N, bk := D.nx } σ2 H2) := by
  refine for_list (xs := xs) (fun i σ' H' => (∃ y, σ' = σ.set j y) ∧ Trk H0 H' L) ⟨⟨y0, h0.symm⟩, T⟩ (fun i σ' H' _ h => SqL.of (ha H' h.2)) ?_ ?_
  · rintro i x σ' H' hx ⟨⟨y, rfl⟩, T⟩
    have h := hs i x (some x) H' hx T
    show tb _ ((σ.set j y).set j (some x)) H'
    rw [List.set_set]
    exact h
  · rintro σ' H' ⟨⟨y, rfl⟩, T⟩
    exact hd y H' T
/-- a loop over range(n) that changes one name besides its own -/
theorem for_rangeT {H0 H : Hp} {L : List (Addr × HO)} {σ : L2.St} {D : Ends} {tb : TS} {n j : Nat} (i1 : Nat) (val : Nat → V) (T : Trk H0 H L) (y0 : Option V) (h0 : (σ.set i1 (some (val 0))).set j y0 = σ)
    (hs : ∀ (i : Nat) (H' : Hp), i < n → Trk H0 H' L → tb { D with nx := fun σ2 H2 => (∃ y, σ2 = (σ.set i1 (some (val (i + 1)))).set j y) ∧ Trk H0 H2 L, ct := fun σ2 H2 => (∃ y, σ2 = (σ.set i1 (some (val (i + 1)))).set j y) ∧ Trk H0 H2 L, bk := D.nx } ((σ.set i1 (some (val i))).set j (some (.int (i : Int)))) H')
    (hd : ∀ (y : Option V) (H' : Hp), Trk H0 H' L → D.nx ((σ.set i1 (some (val n))).set j y) H') :
    ∃ W : Nat → Nat → L2.St → Hp → Prop, (∃ m, W 0 m σ H) ∧ ∀ i m σ H, W i m σ H →
      ((Itr 0 n).stop i H ∧ D.nx σ H) ∨ ((Itr 0 n).go i H ∧ ∃ N : L2.St → Hp → Prop, (∀ σ' H', N σ' H' → ∃ m', m' < m ∧ W (i + 1) m' σ' H') ∧ ∀ x H', (Itr 0 n).yld i H x H' → gName j x σ H' fun σ2 H2 => tb { D with nx := N, ct := N, bk := D.nx } σ2 H2) := by
  refine for_range (fun i σ' H' => (∃ y, σ' = (σ.set i1 (some (val i))).set j y) ∧ Trk H0 H' L) ⟨⟨y0, h0.symm⟩, T⟩ ?_ ?_
  · rintro i σ' H' hi ⟨⟨y, rfl⟩, T⟩
    have h := hs i H' hi T
    rw [Int.zero_add]
    show tb _ (((σ.set i1 (some (val i))).set j y).set j (some (.int (i : Int)))) H'
    rw [List.set_set]
    exact h
  · rintro σ' H' ⟨⟨y, rfl⟩, T⟩
    exact hd y H' T
theorem x_lc {wi : TI} {g : TG} {tt : TT} {te : TE} {vs : List Nat} {σ : L2.St} {H : Hp} {Q : VK} (h : wi σ H fun J H1 => ∀ D, H1 D = none → ∃ W : Nat → Nat → Hp → Prop, (∃ m, W 0 m (upd H1 D (.lst []))) ∧ ∀ i m H, W i m H →
  (J.stop i H ∧ Q (.ref D) H) ∨ (J.go i H ∧ ∃ Nx : Hp → Prop, (∀ H', Nx H' → ∃ m', m' < m ∧ W (i + 1) m' H') ∧ ∀ x H', J.yld i H x H' → g x (wipe σ vs) H' fun σ2 H2 => wipe σ2 vs = wipe σ vs ∧ tt σ2 H2 fun b H3 =>
    if b = true then te σ2 H3 fun y H4 => ∃ acc, H4 D = some (.lst acc) ∧ acc.length < sizeLine ∧ Nx (upd H4 D (.lst (acc ++ [y]))) else Nx H3)) : tLc wi g tt te vs σ H Q := h
theorem x_yes {σ : L2.St} {H : Hp} {R : Bool → Hp → Prop} (h : R true H) : tYes σ H R := h
/-! ### lists of two lists, compared -/
section
variable {K : PySem.W.Frag} {H : Hp} {Q : VK} {p q a c a' c' : Addr} {l m : List Nat}
theorem dp_two (hp : H p = some (.lst [.ref a, .ref c])) (ha : H a = some (.lst (iv l))) (hc : H c = some (.lst (iv m))) : Dp K H (.ref p) (.list [pdI l, pdI m]) := .lst (SqL.of hp) (.cons (dp_iv ha) (.cons (dp_iv hc) .nil))
theorem shaped_two (l m : List Nat) : SeqAt.shaped (.list [pdI l, pdI m]) = true := by
  unfold SeqAt.shaped
  have h1 : (PyData.list [pdI l, pdI m]).canLay0 = true := by
    show ((pdI l).canLay0 && ((pdI m).canLay0 && true)) = true
    rw [canLay_pdI, canLay_pdI]
    rfl
  have h2 : (PyData.list [pdI l, pdI m]).depth = 2 := by
    show max (pdI l).depth (max (pdI m).depth 0) + 1 = 2
    rw [depth_pdI, depth_pdI]
    rfl
  rw [h1, h2]
  rfl
theorem eqv_two (l m : List Nat) : PyData.eqv (.list [pdI l, pdI m]) (.list [pdI l, pdI m]) = true := by
  show (PyData.eqv (pdI l) (pdI l) && (PyData.eqv (pdI m) (pdI m) && true)) = true
  rw [eqv_pdI, eqv_pdI, decide_eq_true rfl, decide_eq_true rfl]
  rfl
theorem x_neLL (hp : H p = some (.lst [.ref a, .ref c])) (hq : H q = some (.lst [.ref a', .ref c'])) (ha : H a = some (.lst (iv l))) (hc : H c = some (.lst (iv m))) (ha' : H a' = some (.lst (iv l))) (hc' : H c' = some (.lst (iv m))) (k : Q (.bl false) H) : rNeD K (.ref p) (.ref q) H Q :=
  ⟨_, _, dp_two hp ha hc, dp_two hq ha' hc', shaped_two l m, shaped_two l m, by rw [eqv_two]; exact k⟩
theorem x_eqLL (hp : H p = some (.lst [.ref a, .ref c])) (hq : H q = some (.lst [.ref a', .ref c'])) (ha : H a = some (.lst (iv l))) (hc : H c = some (.lst (iv m))) (ha' : H a' = some (.lst (iv l))) (hc' : H c' = some (.lst (iv m))) (k : Q (.bl true) H) : rEqD K (.ref p) (.ref q) H Q :=
  ⟨_, _, dp_two hp ha hc, dp_two hq ha' hc', shaped_two l m, shaped_two l m, by rw [eqv_two]; exact k⟩
end
theorem pow_bits {b z k : Nat} (hb : 2 ≤ b ∧ b ≤ 1000000) (h : (digits b z).length ≤ k) : (z : Int).natAbs < 2 ^ (20 * k + 1) := by
  have h1 := (digits_len_lt hb.1).mp h
  have h2 : b ^ k ≤ (2 ^ 20) ^ k := Nat.pow_le_pow_left (by have := hb.2; omega) k
  rw [← Nat.pow_mul] at h2
  rw [Int.natAbs_natCast]
  exact Nat.lt_of_lt_of_le h1 (Nat.le_trans h2 (Nat.pow_le_pow_right (by decide) (Nat.le_succ _)))
theorem RetP.go {v : V} {i j : Nat} {t p : Addr} (k : RetP xs v H0 Q) (T : Trk H0 H L) (hij : i ≠ j) (e1 : L[i]? = some (t, .tup [.ref p, v])) (e2 : L[j]? = some (p, .lst xs)) : Q (.ref t) H := k t p H (T.fresh e1) (T.fresh e2) (nd_ne T.nd e1 e2 hij) T.same (T.get e2) (T.get e1)
theorem RetPP.go {ys : List V} {i j l : Nat} {t p q : Addr} (k : RetPP xs ys H0 Q) (T : Trk H0 H L) (hij : i ≠ j) (hil : i ≠ l) (hjl : j ≠ l) (e1 : L[i]? = some (t, .tup [.ref p, .ref q])) (e2 : L[j]? = some (p, .lst xs)) (e3 : L[l]? = some (q, .lst ys)) : Q (.ref t) H := k t p q H (T.fresh e1) (T.fresh e2) (T.fresh e3) (nd_ne T.nd e1 e2 hij) (nd_ne T.nd e1 e3 hil) (nd_ne T.nd e2 e3 hjl) T.same (T.get e2) (T.get e3) (T.get e1)

/-! ### exceptions -/
/-- an own class of errors -/
def Exc1 (K : PySem.W.Frag) (mg : Str → Option Value) (x : Str) : Prop := mg x = some (.ref (He.ga K x)) ∧ PySem.W.excIn K (He.ga K x) He.veBase "ValueError.__new__" = true ∧ PySem.W.keepIn K (.ref (He.ga K x)) = true ∧ PySem.W.subIn K (.ref (He.ga K x)) (.type "BaseException") = some true ∧
  PySem.W.typeIn K (.ref (He.ga K x)) = some (.type "type")
theorem raise1 {X : Cx} {W : WX} {x m : Str} {j : Nat} {p p2 pos pos' : Pos} (e : Exc1 X.K X.mg x) (hc : X.calm = true) (tk : Takes X W) (hg : Gl X x) (hdb : (x == ("__debug__" : Str)) = false := by decide) :
    PS X (.Raise (some (.Call (.Name x p) [.Constant (.str m) j p2] [] pos)) none pos') (fun _ σ H => W (.ref (He.ga X.K x)) none σ H) :=
  ps_raise hc tk (pmk_own PySem.F.excBase_ValueError e.2.1 e.1 e.2.2.1 (raises_own e.2.2.2.1 e.2.2.2.2) hg hdb)
theorem takes0 {X : Cx} : Takes X (fun _ _ _ _ => False) := fun _ _ ⟨_, _, _, _, _, _, _, _, _, _, _, _, _, _, _, _, w⟩ => w.elim
def tTryO (K : PySem.W.Frag) (c : Value) (ts : Addr → Value → Option Addr → TS) (Wout : WX) (tb : WX → TS) : TS := fun D σ H => tb (wOnly K c ts Wout D) D σ H
def tTryA (K : PySem.W.Frag) (c : Value) (i : Nat) (ts : Addr → Value → Option Addr → TS) (Wout : WX) (tb : WX → TS) : TS := fun D σ H => tb (wAs K c i ts Wout D) D σ H
section
variable {X : Cx} {x n : Str} {c : Value} {i : Nat} {body suite : List Stmt} {b₀ : Stmt} {np pos pos' : Pos} {tb : WX → TS} {ts : Addr → Value → Option Addr → TS} {Wout : WX}
theorem ps_tryO (hc : Names X x c) (hs : X.stack = X.env :: X.outer) (hf : X.env.frame = some X.env.locals) (tk : Takes X Wout)
    (hb : ∀ (W : WX) (pn : List (Addr × Obj)) (xe : Value → Shared → Prop), Takes (X.tr pn xe) W → PassesOwn (model X.prog X.w) X.A X.env xe → PSs (X.tr pn xe) body (tb W))
    (hsu : ∀ (a : Addr) (oe : Obj) (cls : Value) (d : Option Addr) (pn : List (Addr × Obj)), Zc cls d oe → (∃ vs, oe.data = .fields vs) → PSs (X.suite a ((a, oe) :: pn)) (b₀ :: suite) (ts a cls d)) :
    PS X (.Try body [.ExceptHandler (some (.Name x np)) none (b₀ :: suite) pos'] [] [] pos) (tTryO X.K c ts Wout tb) := ps_try_only hs hf hc tk hb hsu
theorem ps_tryA (hc : Names X x c) (hs : X.stack = X.env :: X.outer) (hf : X.env.frame = some X.env.locals) (hN : X.N.Nodup) (hi : X.N[i]? = some n) (hln : X.env.kindOf n = some .local) (tk : Takes X Wout)
    (hb : ∀ (W : WX) (pn : List (Addr × Obj)) (xe : Value → Shared → Prop), Takes (X.tr pn xe) W → PassesOwn (model X.prog X.w) X.A X.env xe → PSs (X.tr pn xe) body (tb W))
    (hsu : ∀ (a : Addr) (oe : Obj) (cls : Value) (d : Option Addr) (pn : List (Addr × Obj)), Zc cls d oe → (∃ vs, oe.data = .fields vs) → PSs (X.suite a ((a, oe) :: pn)) (b₀ :: suite) (ts a cls d)) :
    PS X (.Try body [.ExceptHandler (some (.Name x np)) (some n) (b₀ :: suite) pos'] [] [] pos) (tTryA X.K c i ts Wout tb) := ps_try_as hs hf hN hi hln hc tk hb hsu
/-- a suite that asks the caught error, of a class of the program -/
def tExc (K : PySem.W.Frag) (cls : Value) (d : Option Addr) (t : Addr → TS) : TS := fun D σ H => ∃ Dc, cls = .ref Dc ∧ d = none ∧ ExcC K Dc ∧ t Dc D σ H
theorem pss_exc {ss : List Stmt} {t : Addr → TS} {cls : Value} {d : Option Addr} {oe : Obj} {K : PySem.W.Frag} (hz : Zc cls d oe) (h : ∀ Dc, ExcC K Dc → Zc (.ref Dc) none oe → PSs X ss (t Dc)) : PSs X ss (tExc K cls d t) := by
  refine ⟨fun pins s σ H D I ⟨Dc, e1, e2, hc, q⟩ => ?_⟩
  subst e1 e2
  exact (h Dc hc hz).run pins s σ H D I q
end
section
variable {K : PySem.W.Frag} {σ : L2.St} {H : Hp} {D : Ends} {Q : VK} {c cls : Value} {d : Option Addr} {i : Nat} {ts : Addr → Value → Option Addr → TS} {Wout : WX} {tb : WX → TS} {sp : Sp} {E : L2.St → XK} {t : TA}
theorem x_tryO (h : tb (wOnly K c ts Wout D) D σ H) : tTryO K c ts Wout tb D σ H := h
theorem x_tryA (h : tb (wAs K c i ts Wout D) D σ H) : tTryA K c i ts Wout tb D σ H := h
theorem x_callS (h : t σ H fun vs H1 => sp vs H1 Q (E σ)) : tCallS sp E t σ H Q := h
theorem w_only (e : PySem.W.exmOne K cls c = some true) (h : ∀ a, H a = none → ts a cls d D σ H) : WE (wOnly K c ts Wout D) σ cls d H := ⟨true, e, fun _ => h, fun q => nomatch q⟩
theorem w_as (e : PySem.W.exmOne K cls c = some true) (h : ∀ a, H a = none → ts a cls d { nx := fun σ' H' => D.nx (σ'.set i none) H', rt := D.rt, bk := fun σ' H' => D.bk (σ'.set i none) H', ct := fun σ' H' => D.ct (σ'.set i none) H' } (σ.set i (some (.ref a))) H) : WE (wAs K c i ts Wout D) σ cls d H := ⟨true, e, fun _ => h, fun q => nomatch q⟩
theorem x_exc {C : Addr} {t : Addr → TS} (hc : ExcC K C) (h : t C D σ H) : tExc K (.ref C) none t D σ H := ⟨C, rfl, rfl, hc, h⟩
theorem x_isE {a C : Addr} {v : V} {cv : Value} {b : Bool} (e : PySem.W.kitOne K (.ref C) cv = some b) (hv : ∀ u, RelV v u → u = cv) (k : Q (.bl b) H) : rIsE K C a [.ref a, v] H Q := ⟨v, cv, b, rfl, hv, e, k⟩
theorem rel_ty {n : String} : ∀ u, RelV (.ty n) u → u = .type n := fun _ h => h
theorem rel_ref {a : Addr} : ∀ u, RelV (.ref a) u → u = .ref a := fun _ h => h
end
theorem call_list1T {X : Cx} {K : PySem.W.Frag} (h : X.K = K) : CallR X (.type "list") (rList1 K) := h ▸ call_list1
theorem ix_listT {X : Cx} {K : PySem.W.Frag} (h : X.K = K) : IxR X (rIxL K) := h ▸ ix_list
theorem op_eqDT {X : Cx} {K : PySem.W.Frag} (h : X.K = K) (hu : X.A.units + 64 < cLine) : OpR X (compareOp .Eq) (rEqD K) := h ▸ op_eqD hu
theorem call_len1T {X : Cx} {K : PySem.W.Frag} (h : X.K = K) : CallR X (.builtin "len") (rLen1 K) := h ▸ call_len1
theorem pe_appT {X : Cx} {K : PySem.W.Frag} {o e : Expr} {es : List Expr} {to : TE} {t : TA} {apos cpos : Pos} (h : X.K = K) (ho : PE X o to) (ha : PA X (e :: es) t)
    (hbase : attributeBase o "append" X.env (eval o X.env) = eval o X.env := by rfl)
    (hfew : ((backTo cpos (starEach (e :: es) X.env)).all (fun x => !x.1) && (backToKw cpos (keywordEach [] X.env)).all (fun x => x.1.isSome)
      && decide ((e :: es).length + ([] : List Keyword).length + (if ([] : List Keyword).isEmpty then 0 else 1) < 30)) = true := by rfl)
    (hline : (apos.endLine == cpos.line) = true := by rfl) (hs : starEach (e :: es) X.env = (false, eval e X.env) :: starEach es X.env := by rfl) (hplain : (backTo cpos (starEach es X.env)).any (·.1) = false := by rfl) :
    PE X (.Call (.Attribute o "append" apos) (e :: es) [] cpos) (tBM K "list" rAppend to t) := h ▸ pe_bm PySem.F.plainAttrs_list PySem.F.slot_list_append PySem.F.type_list_append mt_append ho ha hbase hfew hline hs hplain
section
variable {X : Cx} {W : WX} {x : Str} {j k : Nat} {ps : List Str} {sp : Sp} {E : XK} {p pos : Pos} {e : Expr} {es : List Expr} {t : TA}
/-- a call in the body of a try -/
theorem pcS (C : Cal X.prog X.w X.K X.mg X.base (L2.CX X.prog X.w) x j ps sp) (hr : Room k X.A) (tk : Takes X W) (ha : PA X (e :: es) t) (hk : j ≤ k := by omega) (hg : Gl X x := by rfl) (hdb : (x == ("__debug__" : Str)) = false := by decide)
    (he : starEach (e :: es) X.env = (false, eval e X.env) :: starEach es X.env := by rfl) (hpl : (backTo pos (starEach es X.env)).any (·.1) = false := by rfl) : PE X (.Call (.Name x p) (e :: es) [] pos) (tCallS sp (WE W) t) := by
  obtain ⟨f, fd, F, hm, kp, b⟩ := C
  exact pe_callS F (hr.mono hk) hg hm kp b (fun σ => passAt tk σ) ha hdb he hpl
/-- a call that may raise, in a def that may -/
theorem pcE (C : Cal X.prog X.w X.K X.mg X.base (L2.CX X.prog X.w) x j ps sp) (hr : Room k X.A) (tk : Takes X (fun cls d _ H => E cls d H)) (ha : PA X (e :: es) t) (hk : j ≤ k := by omega) (hg : Gl X x := by rfl) (hdb : (x == ("__debug__" : Str)) = false := by decide)
    (he : starEach (e :: es) X.env = (false, eval e X.env) :: starEach es X.env := by rfl) (hpl : (backTo pos (starEach es X.env)).any (·.1) = false := by rfl) : PE X (.Call (.Name x p) (e :: es) [] pos) (tCall sp [] E t) :=
  pcX C hr (passes_call tk fun _ _ _ _ h => h) ha hk hg hdb he hpl
end
/-! ### the head, with the classes' own facts -/
inductive ExF where
  | own (x : Str)
  | kit (x y : Str) (b : Bool)
  | kitT (x : Str) (t : String) (b : Bool)
def ExF.ok (K : PySem.W.Frag) : ExF → Bool
  | .own x => (decide (PySem.W.findIn K (.ref (He.ga K x)) "__getattribute__" = some (some (.builtin "BaseException.__getattribute__"))) && (decide (PySem.W.findIn K (.ref (He.ga K x)) "__getattr__" = some none) && (decide (PySem.W.subIn K (.ref (He.ga K x)) (.type "BaseException") = some true) &&
    (PySem.W.hasDictIn K (He.ga K x) && (decide (PySem.W.findIn K (.ref (He.ga K x)) "__class__" = some (some (.builtin "object.__class__"))) && (decide (PySem.W.specialIn K (.builtin "object.__class__") "__get__" = some (some (.builtin "getset_descriptor.__get__"))) &&
    (decide (PySem.W.takesIn K (.builtin "object.__class__") = some true) && decide (PySem.W.mroIn K (He.ga K x) (.type "object") = some true))))))))
  | .kit x y b => decide (PySem.W.kitOne K (.ref (He.ga K x)) (.ref (He.ga K y)) = some b)
  | .kitT x t b => decide (PySem.W.kitOne K (.ref (He.ga K x)) (.type t) = some b)
theorem own_ok {K : PySem.W.Frag} {x : Str} (h : (ExF.own x).ok K = true) : ExcC K (He.ga K x) := by
  obtain ⟨h1, h⟩ := He.ba h
  obtain ⟨h2, h⟩ := He.ba h
  obtain ⟨h3, h⟩ := He.ba h
  obtain ⟨h4, h⟩ := He.ba h
  obtain ⟨h5, h⟩ := He.ba h
  obtain ⟨h6, h⟩ := He.ba h
  obtain ⟨h7, h8⟩ := He.ba h
  exact ⟨of_decide_eq_true h1, of_decide_eq_true h2, of_decide_eq_true h3, h4, of_decide_eq_true h5, of_decide_eq_true h6, of_decide_eq_true h7, of_decide_eq_true h8⟩
theorem kit_ok {K : PySem.W.Frag} {x y : Str} {b : Bool} (h : (ExF.kit x y b).ok K = true) : PySem.W.kitOne K (.ref (He.ga K x)) (.ref (He.ga K y)) = some b := of_decide_eq_true h
theorem kitT_ok {K : PySem.W.Frag} {x : Str} {t : String} {b : Bool} (h : (ExF.kitT x t b).ok K = true) : PySem.W.kitOne K (.ref (He.ga K x)) (.type t) = some b := of_decide_eq_true h
abbrev AlF : Type := He.AlD × Bool
def obsF (fa : List He.Fa) (fn : List He.DefD) (ex : List ExF) (K : PySem.W.Frag) : AlF := (He.obsD fa fn K, ex.all fun e => e.ok K)
def obsFG (n : Nat) (fa : List He.Fa) (fn : List He.DefD) (ex : List ExF) (g : Addr → Option Obj) : AlF := obsF fa fn ex (He.frG g (He.asD g n))
def hookF (n : Nat) (fa : List He.Fa) (fn : List He.DefD) (ex : List ExF) : PySem.W.Hook where
  α := AlF
  obs := fun s => obsFG n fa fn ex s.heap.get?
  val := fun _ => (He.valD fn, true)
  says := fun _ h => ∃ K : PySem.W.Frag, K.In h ∧ He.SaysD fa fn K ∧ (ex.all fun e => e.ok K) = true
  of := fun _ _ e => ⟨_, He.frG_in, congrArg (fun z : AlF => z.1) e, congrArg (fun z : AlF => z.2) e⟩
  keeps := fun _ _ _ ⟨K, hK, c⟩ k => ⟨K, PySem.W.Frag.In.keeps hK k, c⟩
theorem obsFG_eq {n : Nat} {fa : List He.Fa} {fn : List He.DefD} {ex : List ExF} {g : Addr → Option Obj} {s : Shared} (h : ∀ a, g a = s.heap.get? a) : obsFG n fa fn ex g = (hookF n fa fn ex).obs s := by
  have e : g = s.heap.get? := funext h
  rw [e] <;> rfl
theorem ex_at {K : PySem.W.Frag} {ex : List ExF} (c : (ex.all fun e => e.ok K) = true) (i : Nat) {f : ExF} (h : ex[i]? = some f := by rfl) : f.ok K = true := List.all_eq_true.mp c f (List.mem_of_getElem? h)

/-! ### texts -/
section
variable {K : PySem.W.Frag} {σ : L2.St} {H : Hp} {D : Ends} {Q : VK} {x y : Str} {te : TE}
theorem for_str {g : TG} {tb : TS} (Pv : Nat → L2.St → Hp → Prop) (h0 : Pv 0 σ H)
    (hs : ∀ (i c : Nat) (σ : L2.St) (H : Hp), x.cps[i]? = some c → Pv i σ H → g (.str ⟨#[c]⟩) σ H fun σ2 H2 => tb { D with nx := Pv (i + 1), ct := Pv (i + 1), bk := D.nx } σ2 H2) (hd : ∀ σ H, Pv x.cps.size σ H → D.nx σ H) :
    ∃ W : Nat → Nat → L2.St → Hp → Prop, (∃ m, W 0 m σ H) ∧ ∀ i m σ H, W i m σ H →
      ((Its x).stop i H ∧ D.nx σ H) ∨ ((Its x).go i H ∧ ∃ N : L2.St → Hp → Prop, (∀ σ' H', N σ' H' → ∃ m', m' < m ∧ W (i + 1) m' σ' H') ∧ ∀ v H', (Its x).yld i H v H' → g v σ H' fun σ2 H2 => tb { D with nx := N, ct := N, bk := D.nx } σ2 H2) := by
  refine ⟨fun i m σ H => m = x.cps.size - i ∧ i ≤ x.cps.size ∧ Pv i σ H, ⟨x.cps.size, rfl, Nat.zero_le _, h0⟩, ?_⟩
  rintro i m σ H ⟨rfl, hi, p⟩
  by_cases hlt : i < x.cps.size
  · refine .inr ⟨hlt, Pv (i + 1), fun σ' H' p' => ⟨x.cps.size - (i + 1), by omega, rfl, hlt, p'⟩, fun v H' y => ?_⟩
    obtain ⟨e, c, hc, ev⟩ := y
    subst e ev
    exact hs i c σ _ hc p
  · have e : i = x.cps.size := by omega
    subst e
    exact .inl ⟨Nat.le_refl _, hd σ H p⟩
theorem x_iS {R : It → Hp → Prop} (h : te σ H fun v H1 => ∃ x, v = .str x ∧ R (Its x) H1) : iStr te σ H R := h
theorem x_iS1 {R : Str → Prop} (h : R x) : ∃ z, V.str x = .str z ∧ R z := ⟨x, rfl, h⟩
theorem x_eqS (h : Q (.bl (decide (x = y))) H) : rEq (.str x) (.str y) H Q := ⟨rfl, by
  by_cases e : x = y
  · subst e
    rw [decide_eq_true rfl] at h
    rw [decide_eq_true rfl]
    exact h
  · rw [decide_eq_false e] at h
    rw [decide_eq_false (fun z => e (V.str.inj z))]
    exact h⟩
theorem x_neS (h : Q (.bl (!decide (x = y))) H) : rNe (.str x) (.str y) H Q := ⟨rfl, by
  by_cases e : x = y
  · subst e
    rw [decide_eq_true rfl] at h
    rw [decide_eq_true rfl]
    exact h
  · rw [decide_eq_false e] at h
    rw [decide_eq_false (fun z => e (V.str.inj z))]
    exact h⟩
def rNotInS : R2 := fun x y H Q => ∃ (c : Nat) (z : Str), x = .str ⟨#[c]⟩ ∧ y = .str z ∧ Q (.bl (!decide (c ∈ z.cps.toList))) H
theorem op_notInS {X : Cx} : OpR X (compareOp .NotIn) rNotInS := op_notIn_sign
theorem x_notInS {c : Nat} (h : Q (.bl (!decide (c ∈ y.cps.toList))) H) : rNotInS (.str ⟨#[c]⟩) (.str y) H Q := ⟨c, y, rfl, rfl, h⟩
theorem x_ixC {i : Int} {c : Nat} (hz : x.length ≤ 100000) (e : atI x.cps.toList i = some c) (h : Q (.str ⟨#[c]⟩) H) : rIxS (.str x) (.int i) H Q := ⟨x, i, c, rfl, rfl, sz hz, e, h⟩
end
section
variable {σ : L2.St} {H : Hp} {Q : VK} {x y : Str}
theorem lc_Itv {K : PySem.W.Frag} {a : Addr} {xs : List V} {g : TG} {tt : TT} {te : TE} {vs : List Nat} {H1 : Hp} {D : Addr} {Qd : Hp → Prop} (Pv : Nat → Hp → Prop) (h0 : Pv 0 (upd H1 D (.lst []))) (hl : ∀ i H, Pv i H → SqL K H a xs)
    (hs : ∀ i x H, i < xs.length → xs[xs.length - 1 - i]? = some x → Pv i H → g x (wipe σ vs) H fun σ2 H2 => wipe σ2 vs = wipe σ vs ∧ tt σ2 H2 fun b H3 =>
      if b = true then te σ2 H3 fun y H4 => ∃ acc, H4 D = some (.lst acc) ∧ acc.length < sizeLine ∧ Pv (i + 1) (upd H4 D (.lst (acc ++ [y]))) else Pv (i + 1) H3) (hd : ∀ H, Pv xs.length H → Qd H) :
    ∃ W : Nat → Nat → Hp → Prop, (∃ m, W 0 m (upd H1 D (.lst []))) ∧ ∀ i m H, W i m H →
      ((Itv K a xs.length).stop i H ∧ Qd H) ∨ ((Itv K a xs.length).go i H ∧ ∃ Nx : Hp → Prop, (∀ H', Nx H' → ∃ m', m' < m ∧ W (i + 1) m' H') ∧ ∀ x H', (Itv K a xs.length).yld i H x H' → g x (wipe σ vs) H' fun σ2 H2 => wipe σ2 vs = wipe σ vs ∧ tt σ2 H2 fun b H3 =>
        if b = true then te σ2 H3 fun y H4 => ∃ acc, H4 D = some (.lst acc) ∧ acc.length < sizeLine ∧ Nx (upd H4 D (.lst (acc ++ [y]))) else Nx H3) := by
  refine ⟨fun i m H => m = xs.length - i ∧ i ≤ xs.length ∧ Pv i H, ⟨xs.length, by simp, Nat.zero_le _, h0⟩, ?_⟩
  rintro i m H ⟨rfl, hi, p⟩
  have q := hl i H p
  by_cases hlt : i < xs.length
  · have hj : xs.length - 1 - i < xs.length := by omega
    have hx : xs[xs.length - 1 - i]? = some xs[xs.length - 1 - i] := List.getElem?_eq_getElem hj
    refine .inr ⟨⟨hlt, xs, _, q, hx⟩, Pv (i + 1), fun H' p' => ⟨xs.length - (i + 1), by omega, rfl, hlt, p'⟩, fun x H' y => ?_⟩
    obtain ⟨e, y⟩ := y
    subst e
    exact hs i x _ hlt (y xs q) p
  · have e : i = xs.length := by omega
    subst e
    exact .inl ⟨Nat.le_refl _, hd H p⟩
def rStrI : List V → Hp → VK → Prop := fun xs H Q => ∃ i : Int, xs = [.int i] ∧ i.natAbs.log2 < 1920 ∧ Q (.str (Str.ofString (toString i))) H
theorem call_strI {X : Cx} : CallR X (.type "str") rStrI := call_str_int
theorem x_strI {i : Nat} (hi : i < 2 ^ 60) (q : Q (.str (Str.ofString (toString (i : Int)))) H) : rStrI [.int (i : Int)] H Q := ⟨i, rfl, by
  rw [Int.natAbs_natCast]
  exact Nat.lt_of_lt_of_le (PySem.Flt.log2_lt_of (k := 60) (by decide) hi) (by decide), q⟩
def rIntS : List V → Hp → VK → Prop := fun xs H Q => ∃ (a : Str) (n : Int), xs = [.str a] ∧ PySem.intText? a = some n ∧ a.length ≤ 640 ∧ Q (.int n) H
theorem call_intS {X : Cx} : CallR X (.type "int") rIntS := call_int_str
theorem x_intS {n : Int} (e : PySem.intText? x = some n) (hl : x.length ≤ 640) (q : Q (.int n) H) : rIntS [.str x] H Q := ⟨x, n, rfl, e, hl, q⟩
def rSplit : V → List V → Hp → VK → Prop := fun x xs H Q => ∃ a b : Str, x = .str a ∧ xs = [.str b] ∧ (b.length == 0) = false ∧ a.length + 2 ≤ sizeLine ∧ rNewStrs (Txt.split a b) H Q
def rJoin (K : PySem.W.Frag) : V → List V → Hp → VK → Prop := fun x xs H Q => ∃ (a : Str) (p : Addr), ∃ ys : List Str, x = .str a ∧ xs = [.ref p] ∧ (SqL K H p (ys.map V.str) ∨ SqT K H p (ys.map V.str)) ∧ (ys.map (·.length)).sum + ys.length * a.length ≤ 16777216 ∧ Q (.str (Txt.join a ys)) H
theorem pe_splitN {X : Cx} {o e : Expr} {to te : TE} {apos pos : Pos} (ho : PE X o to) (he : PE X e te) (hs : starEach [e] X.env = [(false, eval e X.env)] := by rfl) (hbase : attributeBase o "split" X.env (eval o X.env) = eval o X.env := by rfl) (hline : (apos.endLine == pos.line) = true := by rfl) :
    PE X (.Call (.Attribute o "split" apos) [e] [] pos) (tM1 rSplit to te) := pe_split ho he hs hbase hline
theorem pe_joinN {X : Cx} {o e : Expr} {to te : TE} {apos pos : Pos} (ho : PE X o to) (he : PE X e te) (hs : starEach [e] X.env = [(false, eval e X.env)] := by rfl) (hbase : attributeBase o "join" X.env (eval o X.env) = eval o X.env := by rfl) (hline : (apos.endLine == pos.line) = true := by rfl) :
    PE X (.Call (.Attribute o "join" apos) [e] [] pos) (tM1 (rJoin X.K) to te) := pe_join ho he hs hbase hline
theorem x_m1 {r : V → List V → Hp → VK → Prop} {to te : TE} (h : to σ H fun x H1 => (∃ a, x = .str a) ∧ te σ H1 fun y H2 => r x [y] H2 Q) : tM1 r to te σ H Q := h
theorem x_m1s {A : Prop} (h : A) : (∃ a, V.str x = .str a) ∧ A := ⟨⟨x, rfl⟩, h⟩
theorem x_split (hy : (y.length == 0) = false) (hx : x.length ≤ 100000) (k : ∀ p, H p = none → Q (.ref p) (upd H p (.lst ((Txt.split x y).map V.str)))) : rSplit (.str x) [.str y] H Q := ⟨x, y, rfl, rfl, hy, Nat.le_trans (by omega : x.length + 2 ≤ 100002) (by decide), k⟩
theorem x_join {K : PySem.W.Frag} {p : Addr} {ys : List Str} (h : H p = some (.lst (ys.map V.str))) (hz : (ys.map (·.length)).sum + ys.length * x.length ≤ 16777216) (q : Q (.str (Txt.join x ys)) H) : rJoin K (.str x) [.ref p] H Q := ⟨x, p, ys, rfl, rfl, .inl (SqL.of h), hz, q⟩
end

end Fg
set_option Elab.async false
set_option linter.all false
set_option maxRecDepth 100000
namespace Fg
open PySem PySem.Spec PyProof.Rows L2
def topS (i : Nat) : Stmt := PySem.Challenge.pw_figrow_k14_refusals.main.body.getD i (.Pass ⟨0, 0, 0, 0⟩)

/-! the walk: one step of a reading, by what stands at its head -/
local macro_rules | `(tactic| walk_at "fact") => `(tactic| first
  | assumption
  | (refine' Trk.get (i := 0) ?k1 ?k2; (case k1 => assumption); (case k2 => exact rfl))
  | (refine' Trk.get (i := 1) ?k1 ?k2; (case k1 => assumption); (case k2 => exact rfl))
  | (refine' Trk.get (i := 2) ?k1 ?k2; (case k1 => assumption); (case k2 => exact rfl))
  | (refine' Trk.get (i := 3) ?k1 ?k2; (case k1 => assumption); (case k2 => exact rfl))
  | (refine' Trk.get (i := 4) ?k1 ?k2; (case k1 => assumption); (case k2 => exact rfl))
  | (refine' Trk.get (i := 5) ?k1 ?k2; (case k1 => assumption); (case k2 => exact rfl))
  | (refine' Trk.get (i := 6) ?k1 ?k2; (case k1 => assumption); (case k2 => exact rfl))
  | (refine' Trk.get (i := 7) ?k1 ?k2; (case k1 => assumption); (case k2 => exact rfl))
  | (refine' Trk.get (i := 8) ?k1 ?k2; (case k1 => assumption); (case k2 => exact rfl))
  | (refine' Trk.get (i := 9) ?k1 ?k2; (case k1 => assumption); (case k2 => exact rfl))
  | (refine' Trk.get (i := 10) ?k1 ?k2; (case k1 => assumption); (case k2 => exact rfl))
  | (refine' Trk.get (i := 11) ?k1 ?k2; (case k1 => assumption); (case k2 => exact rfl))
  | (refine' Trk.get (i := 12) ?k1 ?k2; (case k1 => assumption); (case k2 => exact rfl))
  | (refine' Trk.get (i := 13) ?k1 ?k2; (case k1 => assumption); (case k2 => exact rfl))
  | (refine' Trk.get (i := 14) ?k1 ?k2; (case k1 => assumption); (case k2 => exact rfl))
  | (refine' Trk.get (i := 15) ?k1 ?k2; (case k1 => assumption); (case k2 => exact rfl))
  | (refine' Trk.get (i := 16) ?k1 ?k2; (case k1 => assumption); (case k2 => exact rfl))
  | (refine' Trk.get (i := 17) ?k1 ?k2; (case k1 => assumption); (case k2 => exact rfl))
  | (refine' Trk.get (i := 18) ?k1 ?k2; (case k1 => assumption); (case k2 => exact rfl))
  | (refine' Trk.get (i := 19) ?k1 ?k2; (case k1 => assumption); (case k2 => exact rfl))
  | (refine' Trk.get (i := 20) ?k1 ?k2; (case k1 => assumption); (case k2 => exact rfl))
  | (refine' Trk.get (i := 21) ?k1 ?k2; (case k1 => assumption); (case k2 => exact rfl))
  | (refine' Trk.get (i := 22) ?k1 ?k2; (case k1 => assumption); (case k2 => exact rfl))
  | (refine' Trk.get (i := 23) ?k1 ?k2; (case k1 => assumption); (case k2 => exact rfl))
  | (refine' Trk.get (i := 24) ?k1 ?k2; (case k1 => assumption); (case k2 => exact rfl))
  | (refine' Trk.get (i := 25) ?k1 ?k2; (case k1 => assumption); (case k2 => exact rfl))
  | (refine' Trk.get (i := 26) ?k1 ?k2; (case k1 => assumption); (case k2 => exact rfl))
  | (refine' Trk.get (i := 27) ?k1 ?k2; (case k1 => assumption); (case k2 => exact rfl))
  | (refine' Trk.get (i := 28) ?k1 ?k2; (case k1 => assumption); (case k2 => exact rfl))
  | (refine' Trk.get (i := 29) ?k1 ?k2; (case k1 => assumption); (case k2 => exact rfl))
  | (refine' Trk.get (i := 30) ?k1 ?k2; (case k1 => assumption); (case k2 => exact rfl))
  | (refine' Trk.get (i := 31) ?k1 ?k2; (case k1 => assumption); (case k2 => exact rfl))
  | (refine' Trk.get (i := 32) ?k1 ?k2; (case k1 => assumption); (case k2 => exact rfl))
  | (refine' Trk.get (i := 33) ?k1 ?k2; (case k1 => assumption); (case k2 => exact rfl))
  | (refine' Trk.get (i := 34) ?k1 ?k2; (case k1 => assumption); (case k2 => exact rfl))
  | (refine' Trk.get (i := 35) ?k1 ?k2; (case k1 => assumption); (case k2 => exact rfl))
  | (refine' Trk.get (i := 36) ?k1 ?k2; (case k1 => assumption); (case k2 => exact rfl))
  | (refine' Trk.get (i := 37) ?k1 ?k2; (case k1 => assumption); (case k2 => exact rfl))
  | (refine' Trk.get (i := 38) ?k1 ?k2; (case k1 => assumption); (case k2 => exact rfl))
  | (refine' Trk.get (i := 39) ?k1 ?k2; (case k1 => assumption); (case k2 => exact rfl))
  | (refine' Trk.get (i := 40) ?k1 ?k2; (case k1 => assumption); (case k2 => exact rfl))
  | (refine' Trk.get (i := 41) ?k1 ?k2; (case k1 => assumption); (case k2 => exact rfl))
  | (refine' Trk.get (i := 42) ?k1 ?k2; (case k1 => assumption); (case k2 => exact rfl))
  | (refine' Trk.get (i := 43) ?k1 ?k2; (case k1 => assumption); (case k2 => exact rfl))
  | (refine' Trk.get (i := 44) ?k1 ?k2; (case k1 => assumption); (case k2 => exact rfl))
  | (refine' Trk.up ?k1 ?k2; (case k1 => assumption); (case k2 => assumption))
  | (refine' Trk.sq ?k1 ?k2; (case k1 => assumption); (case k2 => assumption)))
local macro_rules | `(tactic| walk_at "s0") => `(tactic| first
  | with_reducible refine x_asg ?_
  | ((with_reducible refine x_name ?_); dsimp only [List.set_cons_zero, List.set_cons_succ])
  | with_reducible refine x_ret ?_
  | with_reducible refine x_drop ?_
  | with_reducible refine x_next ?_
  | ((with_reducible refine' x_var ?k1 ?_); (case k1 => exact rfl))
  | with_reducible refine x_c ?_
  | with_reducible refine x_op ?_
  | with_reducible refine x_un ?_
  | with_reducible refine x_I0 ?_
  | with_reducible refine x_U ?_
  | with_reducible refine x_eqI ?_
  | with_reducible refine x_isG ?_
  | with_reducible refine x_notG ?_
  | with_reducible refine x_par ?_
  | ((with_reducible refine x_pair ?_); dsimp only [List.set_cons_zero, List.set_cons_succ])
  | ((with_reducible refine' x_tup2 ?k1 ?k2 ?_); (case k1 => walk_at "fact"); (case k2 => exact rfl); dsimp only [List.set_cons_zero, List.set_cons_succ])
  | with_reducible refine x_neI ?_
  | with_reducible refine x_nil ?_
  | with_reducible refine x_cons ?_
  | with_reducible refine x_call ?_
  | with_reducible refine x_cb ?_
  | with_reducible refine x_test ?_
  | with_reducible refine x_B ?_
  | with_reducible refine x_bl ?_
  | with_reducible refine x_not ?_
  | with_reducible refine x_and ?_
  | with_reducible refine x_or ?_
  | with_reducible refine x_andV ?_
  | with_reducible refine x_orV ?_
  | with_reducible refine x_notV ?_
  | with_reducible refine x_ifE ?_
  | with_reducible refine x_chain ?_
  | with_reducible refine x_sl ?_
  | with_reducible refine x_po0 ?_
  | with_reducible refine x_po1 ?_
  | with_reducible refine x_part ?_
  | with_reducible refine x_lst ?_
  | with_reducible refine x_tup ?_
  | with_reducible refine x_bm ?_
  | with_reducible refine x_revL ?_
  | with_reducible refine x_for ?_
  | with_reducible refine x_lc ?_
  | with_reducible refine x_yes ?_
  | with_reducible refine x_iList ?_
  | with_reducible refine x_iRev ?_
  | with_reducible refine x_iR1 ?_
  | with_reducible refine x_iR3 ?_
  | with_reducible refine x_iEn ?_
  | with_reducible refine x_m1 ?_
  | with_reducible refine x_m1s ?_
  | with_reducible refine x_iS ?_
  | with_reducible refine x_iS1 ?_
  | with_reducible refine x_eqS ?_
  | with_reducible refine x_neS ?_
  | with_reducible refine x_notInS ?_
  | with_reducible refine x_max ?_
  | with_reducible refine x_min ?_
  | ((with_reducible refine' x_len ?k1 ?_); (case k1 => walk_at "fact"))
  | ((with_reducible refine' x_lenS ?k1 ?_); (case k1 => walk_at "fact"))
  | ((with_reducible refine' x_lenT ?k1 ?_); (case k1 => walk_at "fact"))
  | ((with_reducible refine' x_il ?k1 ?_); (case k1 => walk_at "fact"))
  | ((with_reducible refine' x_rv ?k1 ?_); (case k1 => walk_at "fact"))
  | ((with_reducible refine' x_en ?k1 ?_); (case k1 => walk_at "fact"))
  | ((with_reducible refine' x_tyL ?k1 ?_); (case k1 => walk_at "fact"))
  | with_reducible refine iteT ?_
  | with_reducible refine iteF ?_
  | with_reducible refine ifnT ?_
  | with_reducible refine ifnF ?_
  | (with_reducible refine x_r1 (by omega) ?_))
local macro_rules | `(tactic| walk_at "s1") => `(tactic| first | with_reducible refine x_seq ?_ | walk_at "s0")
local macro_rules | `(tactic| walk_at "e") => `(tactic| repeat (walk_at "s0"))
local macro_rules | `(tactic| walk_at "p") => `(tactic| repeat (walk_at "s1"))
local macro_rules | `(tactic| walk_at "s") => `(tactic| repeat (first | with_reducible refine x_if ?_ | walk_at "s1"))

/-! ### trimmed -/
abbrev s_trimmed : Stmt := topS 19
theorem sc_trimmed : FnScope ["figures", "size"] ["figures"] (defScope s_trimmed) := ⟨rfl, rfl, rfl, by decide +kernel, rfl, by decide +kernel, by decide +kernel⟩
def spTrimmed : Sp := fun vs H Q _ => ∃ (a : Addr) (l : List Nat), vs = [.ref a] ∧ H a = some (.lst (iv l)) ∧ l.length ≤ 50000 ∧ RetL (iv (trim l)) H Q
theorem ok_trimmed {P : Program} {w : World} {K : PySem.W.Frag} {mg : Str → Option Value} {base : Heap} (D : Dfn K mg "trimmed" s_trimmed) (m_len : mg "len" = none) : Cal P w K mg base CX0 "trimmed" 1 ["figures"] spTrimmed := by
  refine cal0 D sc_trimmed (fun _ _ _ _ _ _ us hl => match us, hl with | [_], _ => rfl) (fun vs H Q E h => ?_) (fun f cdv A outer s H vs Q E hr h => ?_)
  · obtain ⟨a, l, rfl, _⟩ := h
    rfl
  obtain ⟨a, l, rfl, ha, hl, q⟩ := h
  refine ⟨_, (pss_cons (ps_set (i := 1) sc_trimmed.nd rfl (Or.inl rfl) (pe_callB call_len1 (by rfl) m_len PySem.boot_len (pa_cons (pv 0) pa_nil)))
      (pss_cons (ps_while PassesOwn.never (PW.pt (pw_and (pt_cmpR op_gt (pv 1) pe_int (nomark _)) (pw_and1 (pt_cmpR op_eq (pe_ix ix_list (pv 0) (pe_op op_sub (pv 1) pe_int) (fun _ _ => rfl)) pe_int (nomark _))))) (pss_one (ps_set (i := 1) sc_trimmed.nd rfl (Or.inl rfl) (pe_op op_sub (pv 1) pe_int))))
      (pss_one (ps_ret (pe_slice sl_list (pv 0) po_none (po_some (pv 1))))))), ?_⟩
  show tSeq _ _ _ [some (.ref a), none] H
  walk_at "s"
  refine x_while (fun m σ' H' => σ' = [some (.ref a), some (.int (m : Int))] ∧ H' = H ∧ m ≤ l.length ∧ trim (l.take m) = trim l) l.length ⟨?_, rfl, Nat.le_refl _, by rw [List.take_length]⟩ ?_
  · rw [iv_length]
  rintro m σ' H' ⟨rfl, rfl, hm, ht⟩
  walk_at "s"
  refine if2 (fun hb => ?_) (fun hb => ?_)
  · have h0 : (0 : Int) < (m : Int) := of_decide_eq_true hb
    obtain ⟨k, rfl⟩ : ∃ k, m = k + 1 := ⟨m - 1, by omega⟩
    have hk : k < l.length := by omega
    walk_at "s"
    have e1 : ((k + 1 : Nat) : Int) - 1 = (k : Int) := by omega
    rw [e1]
    refine x_ix ha (atI_nat (iv_get (List.getElem?_eq_getElem hk))) ?_
    walk_at "s"
    refine if2 (fun hb => ?_) (fun hb => ?_)
    · have hz : ((l[k] : Nat) : Int) = 0 := of_decide_eq_true hb
      refine x_turn ?_
      walk_at "s"
      refine ⟨k, by omega, by rw [e1], rfl, by omega, trim_take_of hk (by rw [List.getElem?_eq_getElem hk]; congr 1; omega) ht⟩
    · have hz : ¬ ((l[k] : Nat) : Int) = 0 := of_decide_eq_false hb
      walk_at "s"
      refine x_cut ha fun d hd => ?_
      refine q d _ hd (same_upd hd) ?_
      rw [upd_same, cut_to, ← iv_take, trim_take_end hk (List.getElem?_eq_getElem hk) (by omega) ht]
  · have h0 : ¬ (0 : Int) < (m : Int) := of_decide_eq_false hb
    have h1 : m = 0 := by omega
    subst h1
    walk_at "s"
    refine x_cut ha fun d hd => ?_
    refine q d _ hd (same_upd hd) ?_
    rw [upd_same, cut_to, ← iv_take, ← ht]
    rfl

/-! ### order -/
abbrev s_order : Stmt := topS 22
theorem sc_order : FnScope ["one", "other", "at"] ["one", "other"] (defScope s_order) := ⟨rfl, rfl, rfl, by decide +kernel, rfl, by decide +kernel, by decide +kernel⟩
def cmpI (n m : Nat) : Int := if n < m then -1 else if n = m then 0 else 1
def spOrder : Sp := fun vs H Q _ => ∃ (b n m : Nat) (a c : Addr), vs = [.ref a, .ref c] ∧ 2 ≤ b ∧ H a = some (.lst (dig b n)) ∧ H c = some (.lst (dig b m)) ∧ (digits b n).length ≤ 50000 ∧ (digits b m).length ≤ 50000 ∧ RetV (.int (cmpI n m)) H Q
theorem ok_order {P : Program} {w : World} {K : PySem.W.Frag} {mg : Str → Option Value} {base : Heap} (D : Dfn K mg "order" s_order) (m_len : mg "len" = none) (m_range : mg "range" = none) : Cal P w K mg base CX0 "order" 1 ["one", "other"] spOrder := by
  refine cal0 D sc_order (fun _ _ _ _ _ _ us hl => match us, hl with | [_, _], _ => rfl) (fun vs H Q E h => ?_) (fun f cdv A outer s H vs Q E hr h => ?_)
  · obtain ⟨b, n, m, a, c, rfl, _⟩ := h
    rfl
  obtain ⟨b, n, m, a, c, rfl, hb, ha, hc, hn, hm, q⟩ := h
  have la := digits_lt hb n
  have lc := digits_lt hb m
  have gt : m < n → cmpI n m = 1 := fun h => by unfold cmpI; rw [if_neg (by omega), if_neg (by omega)]
  have lt : n < m → cmpI n m = -1 := fun h => by unfold cmpI; rw [if_pos h]
  refine ⟨_, (pss_cons (ps_if (pt_cmpR op_ne (pe_callB call_len1 (by rfl) m_len PySem.boot_len (pa_cons (pv 0) pa_nil)) (pe_callB call_len1 (by rfl) m_len PySem.boot_len (pa_cons (pv 1) pa_nil)) (nomark _)) (pss_one (ps_ret (pe_ifExp (pt_cmpR op_gt (pe_callB call_len1 (by rfl) m_len PySem.boot_len (pa_cons (pv 0) pa_nil)) (pe_callB call_len1 (by rfl) m_len PySem.boot_len (pa_cons (pv 1) pa_nil)) (nomark _)) pe_int (pe_un un_neg pe_int)))) pss_nil)
      (pss_cons (ps_for PassesOwn.never rfl (pi_range3 (by rfl) m_range (pa_cons (pe_op op_sub (pe_callB call_len1 (by rfl) m_len PySem.boot_len (pa_cons (pv 0) pa_nil)) pe_int) (pa_cons (pe_un un_neg pe_int) (pa_cons (pe_un un_neg pe_int) pa_nil)))) (pg_name (i := 2) sc_order.nd rfl (Or.inl rfl)) (pss_one (ps_if (pt_cmpR op_ne (pe_ix ix_list (pv 0) (pv 2) (fun _ _ => rfl)) (pe_ix ix_list (pv 1) (pv 2) (fun _ _ => rfl)) (nomark _)) (pss_one (ps_ret (pe_ifExp (pt_cmpR op_gt (pe_ix ix_list (pv 0) (pv 2) (fun _ _ => rfl)) (pe_ix ix_list (pv 1) (pv 2) (fun _ _ => rfl)) (nomark _)) pe_int (pe_un un_neg pe_int)))) pss_nil)))
      (pss_one (ps_ret pe_int)))), ?_⟩
  show tSeq _ _ _ [some (.ref a), some (.ref c), none] H
  walk_at "s"
  have e1 : (dig b n).length = (digits b n).length := iv_length _
  have e2 : (dig b m).length = (digits b m).length := iv_length _
  rw [e1, e2]
  refine if2 (fun h1 => ?_) (fun h1 => ?_)
  · have h2 : ¬ ((digits b n).length : Int) = ((digits b m).length : Int) := fun z => by
      rw [decide_eq_true z] at h1
      cases h1
    walk_at "s"
    rw [e1, e2]
    refine if2 (fun h3 => ?_) (fun h3 => ?_)
    · have h4 : ((digits b m).length : Int) < ((digits b n).length : Int) := of_decide_eq_true h3
      walk_at "s"
      have h5 : m < n := by
        rcases Nat.lt_or_ge m n with z | z
        · exact z
        · have := digits_len_mono hb z
          omega
      rw [gt h5] at q
      exact q H (Same.refl H)
    · have h4 : ¬ ((digits b m).length : Int) < ((digits b n).length : Int) := of_decide_eq_false h3
      walk_at "s"
      have h5 : n < m := by
        rcases Nat.lt_or_ge n m with z | z
        · exact z
        · have := digits_len_mono hb z
          omega
      rw [lt h5] at q
      exact q H (Same.refl H)
  · have h2 : (digits b n).length = (digits b m).length := by
      by_cases z : ((digits b n).length : Int) = ((digits b m).length : Int)
      · omega
      · rw [decide_eq_false z] at h1
        cases h1
    walk_at "s"
    rw [e1]
    refine x_rdown (by omega) ?_
    have e3 : (((digits b n).length : Int) - 1 + 1).toNat = (digits b n).length := by omega
    rw [e3]
    refine for_rangeC (fun i σ' H' => (∃ y, σ' = [some (.ref a), some (.ref c), y]) ∧ H' = H ∧ (digits b n).drop ((digits b n).length - i) = (digits b m).drop ((digits b n).length - i)) ⟨⟨none, rfl⟩, rfl, ?_⟩ ?_ ?_
    · rw [Nat.sub_zero, List.drop_length, h2, List.drop_length]
    · rintro i σ' H' hi ⟨⟨y, rfl⟩, rfl, hd⟩
      have h6 : ((digits b n).length : Int) - 1 + (i : Int) * -1 = (((digits b n).length - 1 - i : Nat) : Int) := by omega
      rw [h6]
      have k1 : (digits b n).length - 1 - i < (digits b n).length := by omega
      have k2 : (digits b n).length - 1 - i < (digits b m).length := by omega
      have k3 : (digits b n).length - 1 - i + 1 = (digits b n).length - i := by omega
      have g1 := List.getElem?_eq_getElem k1
      have g2 := List.getElem?_eq_getElem k2
      generalize (digits b n)[(digits b n).length - 1 - i] = x at *
      generalize (digits b m)[(digits b n).length - 1 - i] = z at *
      walk_at "s"
      refine x_ix ha (atI_nat (iv_get g1)) ?_
      walk_at "s"
      refine x_ix hc (atI_nat (iv_get g2)) ?_
      walk_at "s"
      refine if2 (fun h7 => ?_) (fun h7 => ?_)
      · have h8 : x ≠ z := fun e => by
          rw [e, decide_eq_true rfl] at h7
          cases h7
        walk_at "s"
        refine x_ix ha (atI_nat (iv_get g1)) ?_
        walk_at "s"
        refine x_ix hc (atI_nat (iv_get g2)) ?_
        walk_at "s"
        rw [← k3] at hd
        refine if2 (fun h9 => ?_) (fun h9 => ?_)
        · have h10 : (z : Int) < (x : Int) := of_decide_eq_true h9
          walk_at "s"
          have := cmp_top hb lc la k2 k1 hd.symm g2 g1 (by omega)
          rw [val_digits hb, val_digits hb] at this
          rw [gt this] at q
          exact q _ (Same.refl _)
        · have h10 : ¬ (z : Int) < (x : Int) := of_decide_eq_false h9
          walk_at "s"
          have := cmp_top hb la lc k1 k2 hd g1 g2 (by omega)
          rw [val_digits hb, val_digits hb] at this
          rw [lt this] at q
          exact q _ (Same.refl _)
      · have h8 : x = z := by
          by_cases e : (x : Int) = (z : Int)
          · omega
          · rw [decide_eq_false e] at h7
            cases h7
        walk_at "s"
        refine ⟨⟨_, rfl⟩, rfl, ?_⟩
        have k4 : (digits b n).length - (i + 1) = (digits b n).length - 1 - i := by omega
        rw [k4, List.drop_eq_getElem_cons k1, List.drop_eq_getElem_cons k2, k3, hd]
        rw [List.getElem?_eq_getElem k1] at g1
        rw [List.getElem?_eq_getElem k2] at g2
        rw [Option.some.inj g1, Option.some.inj g2, h8]
    · rintro σ' H' ⟨⟨y, rfl⟩, rfl, hd⟩
      walk_at "s"
      rw [Nat.sub_self, List.drop_zero, List.drop_zero] at hd
      have : n = m := digits_inj hb hd
      have h9 : cmpI n m = 0 := by unfold cmpI; rw [if_neg (by omega), if_pos this]
      rw [h9] at q
      exact q _ (Same.refl _)

/-! ### figure_at -/
abbrev s_figure_at : Stmt := topS 24
theorem sc_figure_at : FnScope ["row", "at"] ["row", "at"] (defScope s_figure_at) := ⟨rfl, rfl, rfl, by decide +kernel, rfl, by decide +kernel, by decide +kernel⟩
def spFigureAt : Sp := fun vs H Q _ => ∃ (a : Addr) (l : List Nat) (i : Nat), vs = [.ref a, .int (i : Int)] ∧ H a = some (.lst (iv l)) ∧ RetV (.int ((l.getD i 0 : Nat) : Int)) H Q
theorem ok_figure_at {P : Program} {w : World} {K : PySem.W.Frag} {mg : Str → Option Value} {base : Heap} (D : Dfn K mg "figure_at" s_figure_at) (m_len : mg "len" = none) : Cal P w K mg base CX0 "figure_at" 1 ["row", "at"] spFigureAt := by
  refine cal0 D sc_figure_at (fun _ _ _ _ _ _ us hl => match us, hl with | [_, _], _ => rfl) (fun vs H Q E h => ?_) (fun f cdv A outer s H vs Q E hr h => ?_)
  · obtain ⟨a, l, i, rfl, _⟩ := h
    rfl
  obtain ⟨a, l, i, rfl, ha, q⟩ := h
  refine ⟨_, (pss_one (ps_ret (pe_ifExp (pt_cmpR op_lt (pv 1) (pe_callB call_len1 (by rfl) m_len PySem.boot_len (pa_cons (pv 0) pa_nil)) (nomark _)) (pe_ix ix_list (pv 0) (pv 1) (fun _ _ => rfl)) pe_int))), ?_⟩
  show tRet _ _ [some (.ref a), some (.int (i : Int))] H
  walk_at "s"
  refine if2 (fun h1 => ?_) (fun h1 => ?_)
  · have h2 : (i : Int) < ((iv l).length : Int) := of_decide_eq_true h1
    rw [iv_length] at h2
    have g := List.getElem?_eq_getElem (l := l) (i := i) (by omega)
    walk_at "s"
    refine x_ix ha (atI_nat (iv_get g)) ?_
    rw [List.getD_eq_getElem?_getD, g] at q
    exact q H (Same.refl H)
  · have h2 : ¬ (i : Int) < ((iv l).length : Int) := of_decide_eq_false h1
    rw [iv_length] at h2
    walk_at "s"
    rw [List.getD_eq_getElem?_getD, List.getElem?_eq_none (by omega)] at q
    exact q H (Same.refl H)

/-! ### summed -/
abbrev s_summed : Stmt := topS 25
theorem sc_summed : FnScope ["base", "one", "other", "found", "over", "at", "total"] ["base", "one", "other"] (defScope s_summed) := ⟨rfl, rfl, rfl, by decide +kernel, rfl, by decide +kernel, by decide +kernel⟩
def spSummed : Sp := fun vs H Q _ => ∃ (b n m : Nat) (a c : Addr), vs = [.int (b : Int), .ref a, .ref c] ∧ (2 ≤ b ∧ b ≤ 1000000) ∧ H a = some (.lst (dig b n)) ∧ H c = some (.lst (dig b m)) ∧ (digits b n).length ≤ 40000 ∧ (digits b m).length ≤ 40000 ∧ RetL (dig b (n + m)) H Q
theorem ok_summed {P : Program} {w : World} {K : PySem.W.Frag} {mg : Str → Option Value} {base : Heap} (D : Dfn K mg "summed" s_summed) (m_len : mg "len" = none) (m_range : mg "range" = none) (m_max : mg "max" = none)
    (C_figure_at : Cal P w K mg base CX0 "figure_at" 1 ["row", "at"] spFigureAt) : Cal P w K mg base CX0 "summed" 2 ["base", "one", "other"] spSummed := by
  refine cal0 D sc_summed (fun _ _ _ _ _ _ us hl => match us, hl with | [_, _, _], _ => rfl) (fun vs H Q E h => ?_) (fun f cdv A outer s H vs Q E hr h => ?_)
  · obtain ⟨b, n, m, a, c, rfl, _⟩ := h
    rfl
  obtain ⟨b, n, m, a, c, rfl, ⟨hb, hb6⟩, ha, hc, hn, hm, q⟩ := h
  have la := digits_lt hb n
  have lc := digits_lt hb m
  refine ⟨_, (pss_cons (ps_set (i := 3) sc_summed.nd rfl (Or.inl rfl) (pe_lst pa_nil))
      (pss_cons (ps_set (i := 4) sc_summed.nd rfl (Or.inl rfl) pe_int)
      (pss_cons (ps_for PassesOwn.never rfl (pi_range1 (by rfl) m_range (pa_cons (pe_callB (call_max2' rfl) (by rfl) m_max (by decide +kernel) (pa_cons (pe_callB call_len1 (by rfl) m_len PySem.boot_len (pa_cons (pv 1) pa_nil)) (pa_cons (pe_callB call_len1 (by rfl) m_len PySem.boot_len (pa_cons (pv 2) pa_nil)) pa_nil))) pa_nil)) (pg_name (i := 5) sc_summed.nd rfl (Or.inl rfl)) (pss_cons (ps_set (i := 6) sc_summed.nd rfl (Or.inl rfl) (pe_op op_add (pe_op op_add (pc C_figure_at hr (pa_cons (pv 1) (pa_cons (pv 5) pa_nil))) (pc C_figure_at hr (pa_cons (pv 2) (pa_cons (pv 5) pa_nil)))) (pv 4)))
      (pss_cons (ps_expr (pe_bm PySem.F.plainAttrs_list PySem.F.slot_list_append PySem.F.type_list_append mt_append (pv 3) (pa_cons (pe_op op_mod (pv 6) (pv 0)) pa_nil)))
      (pss_one (ps_set (i := 4) sc_summed.nd rfl (Or.inl rfl) (pe_op op_fdiv (pv 6) (pv 0)))))))
      (pss_cons (ps_if (pt_cmpR op_gt (pv 4) pe_int (nomark _)) (pss_one (ps_expr (pe_bm PySem.F.plainAttrs_list PySem.F.slot_list_append PySem.F.type_list_append mt_append (pv 3) (pa_cons (pv 4) pa_nil)))) pss_nil)
      (pss_one (ps_ret (pv 3))))))), ?_⟩
  show tSeq _ _ _ [some (.int (b : Int)), some (.ref a), some (.ref c), none, none, none, none] H
  walk_at "s"
  refine ⟨Nat.zero_le _, fun d hd => ?_⟩
  have T := (Trk.nil H).lay (o := .lst []) hd
  walk_at "s"
  have e1 : (dig b n).length = (digits b n).length := iv_length _
  have e2 : (dig b m).length = (digits b m).length := iv_length _
  rw [e1, e2]
  refine x_r1 (by omega) ?_
  have e3 : (max ((digits b n).length : Int) ((digits b m).length : Int)).toNat = max (digits b n).length (digits b m).length := by omega
  rw [e3]
  refine for_range (fun i σ' H' => ∃ acc over y z, σ' = [some (.int (b : Int)), some (.ref a), some (.ref c), some (.ref d), some (.int ((over : Nat) : Int)), y, z] ∧ SumI b (digits b n) (digits b m) i acc over ∧ Trk H H' [(d, .lst (iv acc))])
    ⟨[], 0, none, none, rfl, SumI.start _ _ _, T⟩ ?_ ?_
  · rintro i σ' H' hi ⟨acc, over, y, z, rfl, S, T⟩
    rw [Int.zero_add]
    walk_at "s"
    refine ⟨_, _, i, rfl, T.up ha, fun H1 s1 => ?_⟩
    have T := T.call s1
    walk_at "s"
    refine ⟨_, _, i, rfl, T.up hc, fun H2 s2 => ?_⟩
    have T := T.call s2
    walk_at "s"
    refine x_I (by omega) ?_
    have S' := S.step hb la lc
    generalize (digits b n).getD i 0 = u at *
    generalize (digits b m).getD i 0 = v at *
    have e4 : ((u : Int) + (v : Int) + (over : Int)) = ((u + v + over : Nat) : Int) := by omega
    rw [e4, nat_mod_cast]
    walk_at "s"
    refine x_app (by walk_at "fact") ?_ ?_
    · rw [iv_length, S.len]
      omega
    have T := T.mut 0 rfl (o' := .lst (iv acc ++ [V.int ((u + v + over) % b : Nat)]))
    walk_at "s"
    refine x_I ⟨by omega, by omega⟩ ?_
    rw [nat_div_cast]
    walk_at "s"
    refine ⟨_, _, _, _, rfl, S', ?_⟩
    rw [iv_snoc]
    exact T
  · rintro σ' H' ⟨acc, over, y, z, rfl, S, T⟩
    walk_at "s"
    have R := S.done hb
    refine if2 (fun h1 => ?_) (fun h1 => ?_)
    · have h2 : (0 : Int) < (over : Int) := of_decide_eq_true h1
      rw [if_pos (by omega)] at R
      walk_at "s"
      refine x_app (by walk_at "fact") ?_ ?_
      · rw [iv_length, S.len]
        omega
      have T := T.mut 0 rfl (o' := .lst (iv acc ++ [V.int (over : Int)]))
      walk_at "s"
      refine q.go T 0 ?_
      rw [← iv_snoc, R]
      rfl
    · have h2 : ¬ (0 : Int) < (over : Int) := of_decide_eq_false h1
      rw [if_neg (by omega)] at R
      walk_at "s"
      refine q.go T 0 ?_
      rw [R]
      rfl

/-! ### less_by -/
abbrev s_less_by : Stmt := topS 27
theorem sc_less_by : FnScope ["base", "one", "other", "found", "owed", "at", "left"] ["base", "one", "other"] (defScope s_less_by) := ⟨rfl, rfl, rfl, by decide +kernel, rfl, by decide +kernel, by decide +kernel⟩
def spLessBy : Sp := fun vs H Q _ => ∃ (b n m : Nat) (a c : Addr), vs = [.int (b : Int), .ref a, .ref c] ∧ (2 ≤ b ∧ b ≤ 1000000) ∧ H a = some (.lst (dig b n)) ∧ H c = some (.lst (dig b m)) ∧ (digits b n).length ≤ 40000 ∧ m ≤ n ∧ RetL (dig b (n - m)) H Q
theorem ok_less_by {P : Program} {w : World} {K : PySem.W.Frag} {mg : Str → Option Value} {base : Heap} (D : Dfn K mg "less_by" s_less_by) (m_len : mg "len" = none) (m_range : mg "range" = none)
    (C_figure_at : Cal P w K mg base CX0 "figure_at" 1 ["row", "at"] spFigureAt) (C_trimmed : Cal P w K mg base CX0 "trimmed" 1 ["figures"] spTrimmed) : Cal P w K mg base CX0 "less_by" 2 ["base", "one", "other"] spLessBy := by
  refine cal0 D sc_less_by (fun _ _ _ _ _ _ us hl => match us, hl with | [_, _, _], _ => rfl) (fun vs H Q E h => ?_) (fun f cdv A outer s H vs Q E hr h => ?_)
  · obtain ⟨b, n, m, a, c, rfl, _⟩ := h
    rfl
  obtain ⟨b, n, m, a, c, rfl, ⟨hb, hb6⟩, ha, hc, hn, hm, q⟩ := h
  have la := digits_lt hb n
  have lc := digits_lt hb m
  refine ⟨_, (pss_cons (ps_set (i := 3) sc_less_by.nd rfl (Or.inl rfl) (pe_lst pa_nil))
      (pss_cons (ps_set (i := 4) sc_less_by.nd rfl (Or.inl rfl) pe_int)
      (pss_cons (ps_for PassesOwn.never rfl (pi_range1 (by rfl) m_range (pa_cons (pe_callB call_len1 (by rfl) m_len PySem.boot_len (pa_cons (pv 1) pa_nil)) pa_nil)) (pg_name (i := 5) sc_less_by.nd rfl (Or.inl rfl)) (pss_cons (ps_set (i := 6) sc_less_by.nd rfl (Or.inl rfl) (pe_op op_sub (pe_op op_sub (pe_ix ix_list (pv 1) (pv 5) (fun _ _ => rfl)) (pc C_figure_at hr (pa_cons (pv 2) (pa_cons (pv 5) pa_nil)))) (pv 4)))
      (pss_cons (ps_set (i := 4) sc_less_by.nd rfl (Or.inl rfl) pe_int)
      (pss_cons (ps_if (pt_cmpR op_lt (pv 6) pe_int (nomark _)) (pss_cons (ps_set (i := 6) sc_less_by.nd rfl (Or.inl rfl) (pe_op op_add (pv 6) (pv 0)))
      (pss_one (ps_set (i := 4) sc_less_by.nd rfl (Or.inl rfl) pe_int))) pss_nil)
      (pss_one (ps_expr (pe_bm PySem.F.plainAttrs_list PySem.F.slot_list_append PySem.F.type_list_append mt_append (pv 3) (pa_cons (pv 6) pa_nil))))))))
      (pss_one (ps_ret (pc C_trimmed hr (pa_cons (pv 3) pa_nil))))))), ?_⟩
  show tSeq _ _ _ [some (.int (b : Int)), some (.ref a), some (.ref c), none, none, none, none] H
  walk_at "s"
  refine ⟨Nat.zero_le _, fun d hd => ?_⟩
  have T := (Trk.nil H).lay (o := .lst []) hd
  walk_at "s"
  have e1 : (dig b n).length = (digits b n).length := iv_length _
  rw [e1]
  refine x_r1 (by omega) ?_
  rw [Int.toNat_natCast]
  refine for_range (fun i σ' H' => ∃ acc owed y z, σ' = [some (.int (b : Int)), some (.ref a), some (.ref c), some (.ref d), some (.int ((owed : Nat) : Int)), y, z] ∧ DifI b (digits b n) (digits b m) i acc owed ∧ Trk H H' [(d, .lst (iv acc))])
    ⟨[], 0, none, none, rfl, DifI.start _ _ _, T⟩ ?_ ?_
  · rintro i σ' H' hi ⟨acc, owed, y, z, rfl, S, T⟩
    rw [Int.zero_add]
    have g := List.getElem?_eq_getElem hi
    have S0 := fun z => S.step0 (z := z) hb la lc
    have S1 := fun z => S.step1 (z := z) hb la lc
    have hu : (digits b n).getD i 0 = (digits b n)[i] := by rw [List.getD_eq_getElem?_getD, g]; rfl
    rw [hu] at S0 S1
    have hx : (digits b n)[i] < b := la.get g
    have hy := getD_lt (by omega) lc i
    have ho := S.ov
    generalize (digits b n)[i] = x at *
    walk_at "s"
    refine x_ix (T.up ha) (atI_nat (iv_get g)) ?_
    walk_at "s"
    refine ⟨_, _, i, rfl, T.up hc, fun H1 s1 => ?_⟩
    have T := T.call s1
    generalize (digits b m).getD i 0 = v at *
    walk_at "s"
    have hz : acc.length < 40000 := by rw [S.len]; omega
    refine if2 (fun h1 => ?_) (fun h1 => ?_)
    · have h2 : (x : Int) - (v : Int) - (owed : Int) < 0 := of_decide_eq_true h1
      walk_at "s"
      obtain ⟨z, hz⟩ : ∃ z : Nat, (x : Int) - (v : Int) - (owed : Int) + (b : Int) = (z : Int) := ⟨((x : Int) - (v : Int) - (owed : Int) + (b : Int)).toNat, by omega⟩
      rw [hz]
      refine x_app (by walk_at "fact") (by rw [iv_length]; omega) ?_
      have T := T.mut 0 rfl (o' := .lst (iv acc ++ [V.int (z : Int)]))
      walk_at "s"
      refine ⟨_, 1, _, _, rfl, S1 z (by omega) (by omega), ?_⟩
      rw [iv_snoc]
      exact T
    · have h2 : ¬ (x : Int) - (v : Int) - (owed : Int) < 0 := of_decide_eq_false h1
      walk_at "s"
      obtain ⟨z, hz⟩ : ∃ z : Nat, (x : Int) - (v : Int) - (owed : Int) = (z : Int) := ⟨((x : Int) - (v : Int) - (owed : Int)).toNat, by omega⟩
      rw [hz]
      refine x_app (by walk_at "fact") (by rw [iv_length]; omega) ?_
      have T := T.mut 0 rfl (o' := .lst (iv acc ++ [V.int (z : Int)]))
      walk_at "s"
      refine ⟨_, 0, _, _, rfl, S0 z (by omega), ?_⟩
      rw [iv_snoc]
      exact T
  · rintro σ' H' ⟨acc, owed, y, z, rfl, S, T⟩
    walk_at "s"
    refine ⟨_, acc, rfl, by walk_at "fact", by rw [S.len]; omega, fun p H1 hp s1 h1 => ?_⟩
    have T := T.add s1 hp h1
    refine q.go T 0 ?_
    rw [S.done hb hm]
    rfl

/-! ### times -/
abbrev s_times : Stmt := topS 29
theorem sc_times : FnScope ["base", "row", "figure", "found", "over", "own", "total"] ["base", "row", "figure"] (defScope s_times) := ⟨rfl, rfl, rfl, by decide +kernel, rfl, by decide +kernel, by decide +kernel⟩
def spTimes : Sp := fun vs H Q _ => ∃ (b n f : Nat) (a : Addr), vs = [.int (b : Int), .ref a, .int (f : Int)] ∧ (2 ≤ b ∧ b ≤ 1000000) ∧ H a = some (.lst (dig b n)) ∧ f < b ∧ (digits b n).length ≤ 40000 ∧ RetL (dig b (n * f)) H Q
theorem ok_times {P : Program} {w : World} {K : PySem.W.Frag} {mg : Str → Option Value} {base : Heap} (D : Dfn K mg "times" s_times)
    (C_trimmed : Cal P w K mg base CX0 "trimmed" 1 ["figures"] spTrimmed) : Cal P w K mg base CX0 "times" 2 ["base", "row", "figure"] spTimes := by
  refine cal0 D sc_times (fun _ _ _ _ _ _ us hl => match us, hl with | [_, _, _], _ => rfl) (fun vs H Q E h => ?_) (fun f cdv A outer s H vs Q E hr h => ?_)
  · obtain ⟨b, n, f, a, rfl, _⟩ := h
    rfl
  obtain ⟨b, n, fg, a, rfl, ⟨hb, hb6⟩, ha, hf, hn, q⟩ := h
  have la := digits_lt hb n
  refine ⟨_, (pss_cons (ps_set (i := 3) sc_times.nd rfl (Or.inl rfl) (pe_lst pa_nil))
      (pss_cons (ps_set (i := 4) sc_times.nd rfl (Or.inl rfl) pe_int)
      (pss_cons (ps_for PassesOwn.never rfl (pi_list (pv 1)) (pg_name (i := 5) sc_times.nd rfl (Or.inl rfl)) (pss_cons (ps_set (i := 6) sc_times.nd rfl (Or.inl rfl) (pe_op op_add (pe_op op_mul (pv 5) (pv 2)) (pv 4)))
      (pss_cons (ps_expr (pe_bm PySem.F.plainAttrs_list PySem.F.slot_list_append PySem.F.type_list_append mt_append (pv 3) (pa_cons (pe_op op_mod (pv 6) (pv 0)) pa_nil)))
      (pss_one (ps_set (i := 4) sc_times.nd rfl (Or.inl rfl) (pe_op op_fdiv (pv 6) (pv 0)))))))
      (pss_cons (ps_if (pt_cmpR op_gt (pv 4) pe_int (nomark _)) (pss_one (ps_expr (pe_bm PySem.F.plainAttrs_list PySem.F.slot_list_append PySem.F.type_list_append mt_append (pv 3) (pa_cons (pv 4) pa_nil)))) pss_nil)
      (pss_one (ps_ret (pc C_trimmed hr (pa_cons (pv 3) pa_nil)))))))), ?_⟩
  show tSeq _ _ _ [some (.int (b : Int)), some (.ref a), some (.int (fg : Int)), none, none, none, none] H
  walk_at "s"
  refine ⟨Nat.zero_le _, fun d hd => ?_⟩
  have T := (Trk.nil H).lay (o := .lst []) hd
  walk_at "s"
  refine for_list (xs := dig b n) (fun i σ' H' => ∃ acc over y z, σ' = [some (.int (b : Int)), some (.ref a), some (.int (fg : Int)), some (.ref d), some (.int ((over : Nat) : Int)), y, z] ∧ MulI b (digits b n) fg i acc over ∧ Trk H H' [(d, .lst (iv acc))])
    ⟨[], 0, none, none, rfl, MulI.start hb _ _, T⟩ ?_ ?_ ?_
  · rintro i σ' H' hi ⟨acc, over, y, z, rfl, S, T⟩
    exact SqL.of (T.up ha)
  · rintro i x σ' H' hx ⟨acc, over, y, z, rfl, S, T⟩
    obtain ⟨u, hu, rfl⟩ := iv_at hx
    have S' := S.step hb la hf hu
    have hul : u < b := la.get hu
    have ho := S.ov
    have hz : acc.length < 40000 := by
      rw [S.len]
      have := (List.getElem?_eq_some_iff.mp hu).1
      omega
    walk_at "s"
    refine x_I (Or.inl ⟨by omega, by omega⟩) ?_
    walk_at "s"
    have e4 : (u : Int) * (fg : Int) + (over : Int) = ((u * fg + over : Nat) : Int) := by
      rw [Int.natCast_add, Int.natCast_mul]
    rw [e4]
    refine x_I (by omega) ?_
    rw [nat_mod_cast]
    walk_at "s"
    refine x_app (by walk_at "fact") (by rw [iv_length]; omega) ?_
    have T := T.mut 0 rfl (o' := .lst (iv acc ++ [V.int ((u * fg + over) % b : Nat)]))
    walk_at "s"
    refine x_I ⟨by omega, by omega⟩ ?_
    rw [nat_div_cast]
    walk_at "s"
    refine ⟨_, _, _, _, rfl, S', ?_⟩
    rw [iv_snoc]
    exact T
  · rintro σ' H' ⟨acc, over, y, z, rfl, S, T⟩
    have e1 : (dig b n).length = (digits b n).length := iv_length _
    rw [e1] at S
    have R := S.done hb
    walk_at "s"
    refine if2 (fun h1 => ?_) (fun h1 => ?_)
    · have h2 : (0 : Int) < (over : Int) := of_decide_eq_true h1
      rw [if_pos (by omega)] at R
      walk_at "s"
      refine x_app (by walk_at "fact") (by rw [iv_length, S.len]; omega) ?_
      have T := T.mut 0 rfl (o' := .lst (iv acc ++ [V.int (over : Int)]))
      rw [← iv_snoc] at T
      rw [← iv_snoc]
      walk_at "s"
      refine ⟨_, _, rfl, by walk_at "fact", by rw [List.length_append, S.len]; show _ + 1 ≤ _; omega, fun p H1 hp s1 h1 => ?_⟩
      have T := T.add s1 hp h1
      refine q.go T 0 ?_
      rw [R]
      rfl
    · have h2 : ¬ (0 : Int) < (over : Int) := of_decide_eq_false h1
      rw [if_neg (by omega)] at R
      walk_at "s"
      refine ⟨_, _, rfl, by walk_at "fact", by rw [S.len]; omega, fun p H1 hp s1 h1 => ?_⟩
      have T := T.add s1 hp h1
      refine q.go T 0 ?_
      rw [R]
      rfl

/-! ### moved_up -/
abbrev s_moved_up : Stmt := topS 31
theorem sc_moved_up : FnScope ["row", "places"] ["row", "places"] (defScope s_moved_up) := ⟨rfl, rfl, rfl, by decide +kernel, rfl, by decide +kernel, by decide +kernel⟩
def spMovedUp : Sp := fun vs H Q _ => ∃ (b n k : Nat) (a : Addr), vs = [.ref a, .int (k : Int)] ∧ 2 ≤ b ∧ H a = some (.lst (dig b n)) ∧ (digits b n).length ≤ 50000 ∧ k ≤ 50000 ∧ RetL (dig b (n * b ^ k)) H Q
theorem ok_moved_up {P : Program} {w : World} {K : PySem.W.Frag} {mg : Str → Option Value} {base : Heap} (D : Dfn K mg "moved_up" s_moved_up) : Cal P w K mg base CX0 "moved_up" 1 ["row", "places"] spMovedUp := by
  refine cal0 D sc_moved_up (fun _ _ _ _ _ _ us hl => match us, hl with | [_, _], _ => rfl) (fun vs H Q E h => ?_) (fun f cdv A outer s H vs Q E hr h => ?_)
  · obtain ⟨b, n, k, a, rfl, _⟩ := h
    rfl
  obtain ⟨b, n, k, a, rfl, hb, ha, hn, hk, q⟩ := h
  refine ⟨_, (pss_cons (ps_if (pt_cmpR (op_eqD hr.units) (pv 0) (pe_lst pa_nil) (nomark _)) (pss_one (ps_ret (pe_lst pa_nil))) pss_nil)
      (pss_one (ps_ret (pe_op op_cat (pe_op op_rep (pe_lst (pa_cons pe_int pa_nil)) (pv 1)) (pv 0))))), ?_⟩
  show tSeq _ _ _ [some (.ref a), some (.int (k : Int))] H
  have T := Trk.nil H
  walk_at "s"
  refine t_new T (Nat.le_of_ble_eq_true rfl) fun d T => ?_
  refine x_eqL (l := digits b n) (m := []) (T.up ha) (by walk_at "fact") ?_
  walk_at "s"
  rcases Nat.eq_zero_or_pos n with h0 | h0
  · subst h0
    refine ifT (decide_eq_true (digits_zero b)) ?_
    walk_at "s"
    refine t_new T (Nat.le_of_ble_eq_true rfl) fun d2 T => ?_
    refine q.go T 0 ?_
    rw [Nat.zero_mul]
    unfold dig
    rw [digits_zero]
    rfl
  · have h1 : ¬ digits b n = [] := fun z => by
      have := (digits_nil hb).mp z
      omega
    refine ifF (decide_eq_false h1) ?_
    walk_at "s"
    refine t_new T (Nat.le_of_ble_eq_true rfl) fun d2 T => ?_
    walk_at "s"
    refine t_rep T (by walk_at "fact") (by omega) fun d3 T => ?_
    walk_at "s"
    refine t_cat T (by walk_at "fact") (T.up ha) ?_ fun d4 T => ?_
    · rw [List.length_replicate]
      have : (dig b n).length = (digits b n).length := iv_length _
      omega
    refine q.go T 0 ?_
    unfold dig
    rw [digits_mul_pow hb h0, iv_append, ← iv_replicate]
    rfl

/-! ### top_of -/
abbrev s_top_of : Stmt := topS 36
theorem sc_top_of : FnScope ["base", "row", "at", "total", "figure"] ["base", "row", "at"] (defScope s_top_of) := ⟨rfl, rfl, rfl, by decide +kernel, rfl, by decide +kernel, by decide +kernel⟩
def spTopOf : Sp := fun vs H Q _ => ∃ (b n k : Nat) (a : Addr), vs = [.int (b : Int), .ref a, .int (k : Int)] ∧ (2 ≤ b ∧ b ≤ 1000000) ∧ H a = some (.lst (dig b n)) ∧ RetV (.int ((n / b ^ k : Nat) : Int)) H Q
theorem ok_top_of {P : Program} {w : World} {K : PySem.W.Frag} {mg : Str → Option Value} {base : Heap} (D : Dfn K mg "top_of" s_top_of) (m_reversed : mg "reversed" = none) : Cal P w K mg base CX0 "top_of" 1 ["base", "row", "at"] spTopOf := by
  refine cal0 D sc_top_of (fun _ _ _ _ _ _ us hl => match us, hl with | [_, _, _], _ => rfl) (fun vs H Q E h => ?_) (fun f cdv A outer s H vs Q E hr h => ?_)
  · obtain ⟨b, n, k, a, rfl, _⟩ := h
    rfl
  obtain ⟨b, n, k, a, rfl, hb, ha, q⟩ := h
  refine ⟨_, (pss_cons (ps_set (i := 3) sc_top_of.nd rfl (Or.inl rfl) pe_int)
      (pss_cons (ps_for PassesOwn.never rfl (pi_reversed (by rfl) m_reversed (pa_cons (pe_slice sl_list (pv 1) (po_some (pv 2)) po_none) pa_nil)) (pg_name (i := 4) sc_top_of.nd rfl (Or.inl rfl)) (pss_one (ps_set (i := 3) sc_top_of.nd rfl (Or.inl rfl) (pe_op op_add (pe_op op_mul (pv 3) (pv 0)) (pv 4)))))
      (pss_one (ps_ret (pv 3))))), ?_⟩
  show tSeq _ _ _ [some (.int (b : Int)), some (.ref a), some (.int (k : Int)), none, none] H
  have T := Trk.nil H
  walk_at "s"
  refine t_cut T (T.up ha) fun d T => ?_
  rw [cut_from, show (dig b n).drop k = dig b (n / b ^ k) by unfold dig; rw [← digits_drop hb.1, iv_drop]] at T ⊢
  generalize n / b ^ k = m at *
  walk_at "s"
  refine RT.for_Itv (xs := dig b m) (fun i σ' H' => (∃ y, σ' = [some (.int (b : Int)), some (.ref a), some (.int (k : Int)), some (.int ((top b (digits b m) i : Nat) : Int)), y]) ∧ Trk H H' [(d, .lst (dig b m))]) ⟨⟨none, by rw [top_zero]; rfl⟩, T⟩ ?_ ?_ ?_
  · rintro i σ' H' ⟨_, T⟩
    exact SqL.of (T.get (i := 0) rfl)
  · rintro i x σ' H' hi hx ⟨⟨y, rfl⟩, T⟩
    obtain ⟨u, hu, rfl⟩ := iv_at hx
    have e1 : (dig b m).length = (digits b m).length := iv_length _
    rw [e1] at hu hi
    have e2 := top_succ b (digits b m) hu hi
    walk_at "s"
    refine x_I (Or.inr ⟨by omega, by omega⟩) ?_
    walk_at "s"
    rw [top_nat, ← e2]
    exact ⟨⟨_, rfl⟩, T⟩
  · rintro σ' H' ⟨⟨y, rfl⟩, T⟩
    have e1 : (dig b m).length = (digits b m).length := iv_length _
    rw [e1, top_all, val_digits hb.1]
    walk_at "s"
    exact q.go T

/-! ### often -/
abbrev s_often : Stmt := topS 37
theorem sc_often : FnScope ["base", "row", "other", "at", "top", "lead", "low", "high", "middle"] ["base", "row", "other"] (defScope s_often) := ⟨rfl, rfl, rfl, by decide +kernel, rfl, by decide +kernel, by decide +kernel⟩
def spOften : Sp := fun vs H Q _ => ∃ (b n m : Nat) (a c : Addr), vs = [.int (b : Int), .ref a, .ref c] ∧ (2 ≤ b ∧ b ≤ 1000000) ∧ H a = some (.lst (dig b n)) ∧ H c = some (.lst (dig b m)) ∧ 0 < m ∧ n < m * b ∧ (digits b n).length ≤ 30000 ∧ (digits b m).length ≤ 30000 ∧ RetV (.int ((n / m : Nat) : Int)) H Q
theorem ok_often {P : Program} {w : World} {K : PySem.W.Frag} {mg : Str → Option Value} {base : Heap} (D : Dfn K mg "often" s_often) (m_len : mg "len" = none) (m_max : mg "max" = none) (m_min : mg "min" = none)
    (C_top_of : Cal P w K mg base CX0 "top_of" 1 ["base", "row", "at"] spTopOf) (C_order : Cal P w K mg base CX0 "order" 1 ["one", "other"] spOrder) (C_times : Cal P w K mg base CX0 "times" 2 ["base", "row", "figure"] spTimes) : Cal P w K mg base CX0 "often" 3 ["base", "row", "other"] spOften := by
  refine cal0 D sc_often (fun _ _ _ _ _ _ us hl => match us, hl with | [_, _, _], _ => rfl) (fun vs H Q E h => ?_) (fun f cdv A outer s H vs Q E hr h => ?_)
  · obtain ⟨b, n, m, a, c, rfl, _⟩ := h
    rfl
  obtain ⟨b, n, m, a, c, rfl, hb, ha, hc, hm, hnm, hn, hml, q⟩ := h
  obtain ⟨ht, hlead, hpm⟩ := tops_small hb.1 hb.2 hm hnm
  have ho := often_start hb.1 hm hnm hpm
  have hqb : n / m < b := Nat.div_lt_of_lt_mul hnm
  refine ⟨_, (pss_cons (ps_set (i := 3) sc_often.nd rfl (Or.inl rfl) (pe_callB (call_max2' rfl) (by rfl) m_max (by decide +kernel) (pa_cons (pe_op op_sub (pe_callB call_len1 (by rfl) m_len PySem.boot_len (pa_cons (pv 2) pa_nil)) pe_int) (pa_cons pe_int pa_nil))))
      (pss_cons (ps_par (i := 4) (j := 5) rfl sc_often.nd rfl rfl (by decide) rfl rfl (pa_cons (pc C_top_of hr (pa_cons (pv 0) (pa_cons (pv 1) (pa_cons (pv 3) pa_nil)))) (pa_cons (pc C_top_of hr (pa_cons (pv 0) (pa_cons (pv 2) (pa_cons (pv 3) pa_nil)))) pa_nil)) (by rfl))
      (pss_cons (ps_par (i := 6) (j := 7) rfl sc_often.nd rfl rfl (by decide) rfl rfl (pa_cons (pe_op op_fdivW (pv 4) (pe_op op_add (pv 5) pe_int)) (pa_cons (pe_callB (call_min2' rfl) (by rfl) m_min (by decide +kernel) (pa_cons (pe_op op_sub (pv 0) pe_int) (pa_cons (pe_op op_fdivW (pv 4) (pv 5)) pa_nil))) pa_nil)) (by rfl))
      (pss_cons (ps_while PassesOwn.never (pt_cmpR op_lt (pv 6) (pv 7) (nomark _)) (pss_cons (ps_set (i := 8) sc_often.nd rfl (Or.inl rfl) (pe_op op_fdiv (pe_op op_add (pe_op op_add (pv 6) (pv 7)) pe_int) pe_int))
      (pss_one (ps_if (pt_cmpR op_gt (pc C_order hr (pa_cons (pc C_times hr (pa_cons (pv 0) (pa_cons (pv 2) (pa_cons (pv 8) pa_nil)))) (pa_cons (pv 1) pa_nil))) pe_int (nomark _)) (pss_one (ps_set (i := 7) sc_often.nd rfl (Or.inl rfl) (pe_op op_sub (pv 8) pe_int))) (pss_one (ps_set (i := 6) sc_often.nd rfl (Or.inl rfl) (pv 8)))))))
      (pss_one (ps_ret (pv 6))))))), ?_⟩
  show tSeq _ _ _ [some (.int (b : Int)), some (.ref a), some (.ref c), none, none, none, none, none, none] H
  have T := Trk.nil H
  walk_at "s"
  have e1 : max (((dig b m).length : Int) - 2) 0 = (((digits b m).length - 2 : Nat) : Int) := by
    have : (dig b m).length = (digits b m).length := iv_length _
    omega
  rw [e1]
  generalize (digits b m).length - 2 = k at *
  refine ⟨_, _, _, _, rfl, hb, T.up ha, t_retV T fun H1 T => ?_⟩
  walk_at "s"
  refine ⟨_, _, _, _, rfl, hb, T.up hc, t_retV T fun H2 T => ?_⟩
  walk_at "s"
  generalize n / b ^ k = tn at *
  generalize m / b ^ k = tm at *
  refine x_I (wide_div (b := 42) (by omega) (by omega) (by decide) (by decide)) ?_
  walk_at "s"
  refine x_I (wide_div (b := 42) (by omega) (by omega) (by decide) (by decide)) ?_
  walk_at "s"
  have e2 : (tn : Int) / ((tm : Int) + 1) = ((tn / (tm + 1) : Nat) : Int) := by
    rw [← nat_div_cast]
    rfl
  have e3 : min ((b : Int) - 1) ((tn : Int) / (tm : Int)) = ((min (b - 1) (tn / tm) : Nat) : Int) := by
    rw [nat_div_cast]
    omega
  rw [e2, e3]
  have hmb : min (b - 1) (tn / tm) < b := by omega
  generalize tn / (tm + 1) = low at *
  generalize min (b - 1) (tn / tm) = high at *
  refine x_while (fun j σ' H' => ∃ (low high : Nat) (y : Option V), σ' = [some (.int (b : Int)), some (.ref a), some (.ref c), some (.int (k : Int)), some (.int (tn : Int)), some (.int (tm : Int)), some (.int (low : Int)), some (.int (high : Int)), y] ∧ j = high - low ∧ low ≤ n / m ∧ n / m ≤ high ∧ high < b ∧ Trk H H' []) (high - low) ⟨low, high, none, rfl, rfl, ho.1, ho.2.1, hmb, T⟩ ?_
  rintro j σ' H' ⟨low, high, y, rfl, rfl, hl, hh, hhb, T⟩
  walk_at "s"
  refine if2 (fun h1 => ?_) (fun h1 => ?_)
  · have h2 : (low : Int) < (high : Int) := of_decide_eq_true h1
    refine x_turn ?_
    walk_at "s"
    refine x_I ⟨by decide, by decide⟩ ?_
    have e4 : ((low : Int) + (high : Int) + 1) / 2 = (((low + high + 1) / 2 : Nat) : Int) := by omega
    rw [e4]
    have e5 : low < (low + high + 1) / 2 ∧ (low + high + 1) / 2 ≤ high := by omega
    generalize (low + high + 1) / 2 = mid at *
    walk_at "s"
    refine ⟨_, _, _, _, rfl, hb, T.up hc, by omega, by omega, t_retL T fun p H3 T => ?_⟩
    walk_at "s"
    have hlm : (digits b (m * mid)).length ≤ 50000 := Nat.le_trans (digits_len_mul hb.1 hml (digits_len_le (k := 1) hb.1 (by rw [Nat.pow_one]; omega))) (by decide)
    refine ⟨_, _, _, _, _, rfl, hb.1, by walk_at "fact", T.up ha, hlm, by omega, t_retV T fun H4 T => ?_⟩
    walk_at "s"
    refine if2 (fun h3 => ?_) (fun h3 => ?_)
    · have h4 : (0 : Int) < cmpI (m * mid) n := of_decide_eq_true h3
      have h5 : n < m * mid := by
        unfold cmpI at h4
        split at h4
        · omega
        · split at h4 <;> omega
      have h6 : n / m < mid := Nat.div_lt_of_lt_mul h5
      walk_at "s"
      refine ⟨high - low - (high - mid + 1), by omega, low, mid - 1, _, by congr; omega, by omega, hl, by omega, by omega, T.drop 1⟩
    · have h4 : ¬ (0 : Int) < cmpI (m * mid) n := of_decide_eq_false h3
      have h5 : m * mid ≤ n := by
        unfold cmpI at h4
        split at h4
        · omega
        · split at h4 <;> omega
      have h6 : mid ≤ n / m := (Nat.le_div_iff_mul_le hm).mpr (by rw [Nat.mul_comm]; exact h5)
      walk_at "s"
      refine ⟨high - mid, by omega, mid, high, _, rfl, rfl, h6, hh, hhb, T.drop 1⟩
  · have h2 : ¬ (low : Int) < (high : Int) := of_decide_eq_false h1
    walk_at "s"
    have : low = n / m := by omega
    rw [this]
    exact q.go T

/-! ### shares -/
abbrev s_shares : Stmt := topS 38
theorem sc_shares : FnScope ["base", "one", "other", "found", "at", "left", "own", "figure"] ["base", "one", "other"] (defScope s_shares) := ⟨rfl, rfl, rfl, by decide +kernel, rfl, by decide +kernel, by decide +kernel⟩
def spShares : Sp := fun vs H Q _ => ∃ (b n m : Nat) (a c : Addr), vs = [.int (b : Int), .ref a, .ref c] ∧ (2 ≤ b ∧ b ≤ 1000000) ∧ H a = some (.lst (dig b n)) ∧ H c = some (.lst (dig b m)) ∧ 0 < m ∧ (digits b n).length ≤ 20000 ∧ (digits b m).length ≤ 20000 ∧ RetPP (dig b (n / m)) (dig b (n % m)) H Q
theorem ok_shares {P : Program} {w : World} {K : PySem.W.Frag} {mg : Str → Option Value} {base : Heap} (D : Dfn K mg "shares" s_shares) (m_len : mg "len" = none) (m_max : mg "max" = none) (m_reversed : mg "reversed" = none)
    (C_trimmed : Cal P w K mg base CX0 "trimmed" 1 ["figures"] spTrimmed) (C_often : Cal P w K mg base CX0 "often" 3 ["base", "row", "other"] spOften) (C_less_by : Cal P w K mg base CX0 "less_by" 2 ["base", "one", "other"] spLessBy) (C_times : Cal P w K mg base CX0 "times" 2 ["base", "row", "figure"] spTimes) : Cal P w K mg base CX0 "shares" 4 ["base", "one", "other"] spShares := by
  refine cal0 D sc_shares (fun _ _ _ _ _ _ us hl => match us, hl with | [_, _, _], _ => rfl) (fun vs H Q E h => ?_) (fun f cdv A outer s H vs Q E hr h => ?_)
  · obtain ⟨b, n, m, a, c, rfl, _⟩ := h
    rfl
  obtain ⟨b, n, m, a, c, rfl, hb, ha, hc, hm, hn, hml, q⟩ := h
  have la := digits_lt hb.1 n
  refine ⟨_, (pss_cons (ps_set (i := 3) sc_shares.nd rfl (Or.inl rfl) (pe_lst pa_nil))
      (pss_cons (ps_set (i := 4) sc_shares.nd rfl (Or.inl rfl) (pe_callB (call_max2' rfl) (by rfl) m_max (by decide +kernel) (pa_cons (pe_op op_add (pe_op op_sub (pe_callB call_len1 (by rfl) m_len PySem.boot_len (pa_cons (pv 1) pa_nil)) (pe_callB call_len1 (by rfl) m_len PySem.boot_len (pa_cons (pv 2) pa_nil))) pe_int) (pa_cons pe_int pa_nil))))
      (pss_cons (ps_set (i := 5) sc_shares.nd rfl (Or.inl rfl) (pe_slice sl_list (pv 1) (po_some (pv 4)) po_none))
      (pss_cons (ps_for PassesOwn.never rfl (pi_reversed (by rfl) m_reversed (pa_cons (pe_slice sl_list (pv 1) po_none (po_some (pv 4))) pa_nil)) (pg_name (i := 6) sc_shares.nd rfl (Or.inl rfl)) (pss_cons (ps_set (i := 5) sc_shares.nd rfl (Or.inl rfl) (pc C_trimmed hr (pa_cons (pe_op op_cat (pe_lst (pa_cons (pv 6) pa_nil)) (pv 5)) pa_nil)))
      (pss_cons (ps_set (i := 7) sc_shares.nd rfl (Or.inl rfl) (pc C_often hr (pa_cons (pv 0) (pa_cons (pv 5) (pa_cons (pv 2) pa_nil)))))
      (pss_cons (ps_expr (pe_bm PySem.F.plainAttrs_list PySem.F.slot_list_append PySem.F.type_list_append mt_append (pv 3) (pa_cons (pv 7) pa_nil)))
      (pss_one (ps_set (i := 5) sc_shares.nd rfl (Or.inl rfl) (pc C_less_by hr (pa_cons (pv 0) (pa_cons (pv 5) (pa_cons (pc C_times hr (pa_cons (pv 0) (pa_cons (pv 2) (pa_cons (pv 7) pa_nil)))) pa_nil))))))))))
      (pss_one (ps_ret (pe_tup (pa_cons (pc C_trimmed hr (pa_cons (pe_revL (pv 3)) pa_nil)) (pa_cons (pv 5) pa_nil))))))))), ?_⟩
  show tSeq _ _ _ [some (.int (b : Int)), some (.ref a), some (.ref c), none, none, none, none, none] H
  have T := Trk.nil H
  walk_at "s"
  refine t_new T (Nat.le_of_ble_eq_true rfl) fun d T => ?_
  walk_at "s"
  have l1 : (dig b n).length = (digits b n).length := iv_length _
  have l2 : (dig b m).length = (digits b m).length := iv_length _
  have e1 : max (((dig b n).length : Int) - ((dig b m).length : Int) + 1) 0 = (((digits b n).length + 1 - (digits b m).length : Nat) : Int) := by omega
  rw [e1]
  have hm1 : 0 < (digits b m).length := by
    rcases Nat.eq_zero_or_pos (digits b m).length with z | z
    · have := (digits_nil hb.1).mp (List.eq_nil_of_length_eq_zero z)
      omega
    · exact z
  have hk1 : (digits b n).length + 1 - (digits b m).length ≤ (digits b n).length := by omega
  have hk2 : n / b ^ ((digits b n).length + 1 - (digits b m).length) < m := by
    refine Nat.lt_of_lt_of_le (m := b ^ ((digits b m).length - 1)) ?_ (pow_le_of_len hb.1 (by omega))
    rw [← digits_len_lt hb.1, ← digits_drop hb.1, List.length_drop]
    omega
  generalize hk : (digits b n).length + 1 - (digits b m).length = k at *
  refine t_cut T (T.up ha) fun e T => ?_
  rw [cut_from, show (dig b n).drop k = dig b (n / b ^ k) by unfold dig; rw [← digits_drop hb.1, iv_drop]] at T ⊢
  walk_at "s"
  refine t_cut T (T.up ha) fun g T => ?_
  rw [cut_to, show (dig b n).take k = iv ((digits b n).take k) from (iv_take _ _).symm] at T ⊢
  have lk : ((digits b n).take k).length = k := by rw [List.length_take]; omega
  walk_at "s"
  refine RT.for_Itv (xs := iv ((digits b n).take k)) (fun i σ' H' => ∃ (acc : List Nat) (L : Nat) (e : Addr) (y z : Option V), σ' = [some (.int (b : Int)), some (.ref a), some (.ref c), some (.ref d), some (.int (k : Int)), some (.ref e), y, z] ∧ PartI b (n / b ^ (k - i)) m i acc L ∧ Trk H H' [(g, .lst (iv ((digits b n).take k))), (e, .lst (dig b L)), (d, .lst (iv acc))])
    ⟨[], _, e, none, none, rfl, PartI.start hk2, T⟩ ?_ ?_ ?_
  · rintro i σ' H' ⟨_, _, _, _, _, _, _, T⟩
    exact SqL.of (T.get (i := 0) rfl)
  · rintro i x σ' H' hi hx ⟨acc, L, e, y, z, rfl, S, T⟩
    obtain ⟨u, hu, rfl⟩ := iv_at hx
    rw [iv_length, lk] at hi hu
    have e2 := drop_step hb.1 hi hu
    have hul : u < b := (la.take k).get hu
    have S' := S.step hm hul
    have hl : L < m := by rw [S.r]; exact Nat.mod_lt _ hm
    rw [← e2] at S'
    have hr1 := rem_step_lt hul hl
    have hLl : (digits b L).length ≤ 20000 := Nat.le_trans (digits_len_mono hb.1 (Nat.le_of_lt hl)) hml
    have hrl : (digits b (u + b * L)).length ≤ 20001 := by
      refine Nat.le_trans (digits_len_mono hb.1 (Nat.le_of_lt hr1)) ?_
      exact digits_len_le hb.1 (by rw [Nat.pow_succ]; exact Nat.mul_lt_mul_of_pos_right (digits_len_pred hb.1 hml) (by omega))
    have hq : (u + b * L) / m < b := Nat.div_lt_of_lt_mul hr1
    have hle : m * ((u + b * L) / m) ≤ u + b * L := Nat.mul_div_le _ _
    have hsub : u + b * L - m * ((u + b * L) / m) = (u + b * L) % m := by
      have := Nat.mod_add_div (u + b * L) m
      omega
    walk_at "s"
    refine t_new T (Nat.le_of_ble_eq_true rfl) fun p1 T => ?_
    walk_at "s"
    refine t_cat T (by walk_at "fact") (by walk_at "fact") (by rw [show (dig b L).length = (digits b L).length from iv_length _]; show 1 + _ ≤ _; omega) fun p2 T => ?_
    rw [show [V.int (u : Int)] ++ dig b L = iv ([u] ++ digits b L) from rfl] at T ⊢
    walk_at "s"
    refine ⟨_, _, rfl, by walk_at "fact", by rw [List.length_append]; show 1 + _ ≤ _; omega, ?_⟩
    rw [trim_digits_cons hb.1 hul]
    refine t_retL T fun p3 H1 T => ?_
    walk_at "s"
    refine ⟨_, _, _, _, _, rfl, hb, by walk_at "fact", T.up hc, hm, hr1, by omega, by omega, t_retV T fun H2 T => ?_⟩
    walk_at "s"
    refine t_app (i := 5) T (by exact rfl) (by rw [iv_length, S.len]; omega) fun T => ?_
    rw [← iv_snoc] at T ⊢
    walk_at "s"
    refine ⟨_, _, _, _, rfl, hb, T.up hc, hq, by omega, t_retL T fun p4 H3 T => ?_⟩
    walk_at "s"
    refine ⟨_, _, _, _, _, rfl, hb, by walk_at "fact", by walk_at "fact", by omega, hle, ?_⟩
    rw [hsub]
    refine t_retL T fun p5 H4 T => ?_
    walk_at "s"
    refine ⟨_, _, p5, _, _, rfl, S', T.three 5 0 7 rfl rfl rfl (by decide) (by decide) (by decide)⟩
  · rintro σ' H' ⟨acc, L, e, y, z, rfl, S, T⟩
    rw [iv_length, lk, Nat.sub_self, Nat.pow_zero, Nat.div_one] at S
    walk_at "s"
    refine x_rev (by walk_at "fact") fun d2 hd => ?_
    have T := T.lay (o := .lst (iv acc).reverse) hd
    rw [show (iv acc).reverse = iv acc.reverse from (iv_reverse _).symm] at T ⊢
    walk_at "s"
    refine ⟨_, _, rfl, by walk_at "fact", by rw [List.length_reverse, S.len]; omega, t_retL T fun p H1 T => ?_⟩
    rw [S.done hb.1, S.r] at *
    walk_at "s"
    refine t_tup T (Nat.le_of_ble_eq_true rfl) fun t T => ?_
    exact q.go T (i := 0) (j := 1) (l := 4) (by decide) (by decide) (by decide) rfl rfl rfl

/-! ### slowly -/
abbrev s_slowly : Stmt := topS 44
theorem sc_slowly : FnScope ["base", "one", "other", "found", "at", "figure"] ["base", "one", "other"] (defScope s_slowly) := ⟨rfl, rfl, rfl, by decide +kernel, rfl, by decide +kernel, by decide +kernel⟩
def spSlowly : Sp := fun vs H Q _ => ∃ (b n m : Nat) (a c : Addr), vs = [.int (b : Int), .ref a, .ref c] ∧ (2 ≤ b ∧ b ≤ 1000000) ∧ H a = some (.lst (dig b n)) ∧ H c = some (.lst (dig b m)) ∧ (digits b n).length ≤ 10000 ∧ (digits b m).length ≤ 10000 ∧ RetL (dig b (n * m)) H Q
theorem ok_slowly {P : Program} {w : World} {K : PySem.W.Frag} {mg : Str → Option Value} {base : Heap} (D : Dfn K mg "slowly" s_slowly) (m_enumerate : mg "enumerate" = none)
    (C_summed : Cal P w K mg base CX0 "summed" 2 ["base", "one", "other"] spSummed) (C_moved_up : Cal P w K mg base CX0 "moved_up" 1 ["row", "places"] spMovedUp) (C_times : Cal P w K mg base CX0 "times" 2 ["base", "row", "figure"] spTimes) : Cal P w K mg base CX0 "slowly" 3 ["base", "one", "other"] spSlowly := by
  refine cal0 D sc_slowly (fun _ _ _ _ _ _ us hl => match us, hl with | [_, _, _], _ => rfl) (fun vs H Q E h => ?_) (fun f cdv A outer s H vs Q E hr h => ?_)
  · obtain ⟨b, n, m, a, c, rfl, _⟩ := h
    rfl
  obtain ⟨b, n, m, a, c, rfl, hb, ha, hc, hn, hm, q⟩ := h
  refine ⟨_, (pss_cons (ps_set (i := 3) sc_slowly.nd rfl (Or.inl rfl) (pe_lst pa_nil))
      (pss_cons (ps_for PassesOwn.never rfl (pi_enum (by rfl) m_enumerate (pa_cons (pv 2) pa_nil)) (pg_tup rfl (pgs_cons (pg_name (i := 4) sc_slowly.nd rfl (Or.inl rfl)) (pgs_cons (pg_name (i := 5) sc_slowly.nd rfl (Or.inl rfl)) pgs_nil))) (pss_one (ps_set (i := 3) sc_slowly.nd rfl (Or.inl rfl) (pc C_summed hr (pa_cons (pv 0) (pa_cons (pv 3) (pa_cons (pc C_moved_up hr (pa_cons (pc C_times hr (pa_cons (pv 0) (pa_cons (pv 1) (pa_cons (pv 5) pa_nil)))) (pa_cons (pv 4) pa_nil))) pa_nil)))))))
      (pss_one (ps_ret (pv 3))))), ?_⟩
  show tSeq _ _ _ [some (.int (b : Int)), some (.ref a), some (.ref c), none, none, none] H
  have lc := digits_lt hb.1 m
  have T := Trk.nil H
  walk_at "s"
  refine t_new T (Nat.le_of_ble_eq_true rfl) fun d T => ?_
  walk_at "s"
  refine for_en (xs := dig b m) (fun i σ' H' => ∃ (e : Addr) (y z : Option V), σ' = [some (.int (b : Int)), some (.ref a), some (.ref c), some (.ref e), y, z] ∧ Trk H H' [(e, .lst (dig b (n * val b ((digits b m).take i))))]) ⟨d, none, none, rfl, ?_⟩ ?_ ?_ ?_
  · rw [List.take_zero]
    show Trk H _ [(d, .lst (dig b (n * 0)))]
    rw [Nat.mul_zero]
    unfold dig
    rw [digits_zero]
    exact T
  · rintro i σ' H' ⟨e, y, z, rfl, T⟩
    exact SqL.of (T.up hc)
  · rintro i x σ' H' hx ⟨e, y, z, rfl, T⟩ t ht
    obtain ⟨u, hu, rfl⟩ := iv_at hx
    have hul : u < b := lc.get hu
    have T := T.lay (o := .tup [.int (i : Int), .int (u : Int)]) ht
    have ev := val_take_succ b (digits b m) i
    have eu : (digits b m).getD i 0 = u := by
      rw [List.getD_eq_getElem?_getD, hu]
      rfl
    rw [eu] at ev
    have hle : val b ((digits b m).take (i + 1)) ≤ m := by
      rw [val_take hb.1 lc, val_digits hb.1]
      exact Nat.mod_le _ _
    have hi : i < (digits b m).length := (List.getElem?_eq_some_iff.mp hu).1
    have hL := digits_len_mul hb.1 hn hm
    have mono : ∀ z, z ≤ n * m → (digits b z).length ≤ 20000 := fun z hz => Nat.le_trans (digits_len_mono hb.1 hz) hL
    have h1 : n * val b ((digits b m).take i) ≤ n * m := Nat.mul_le_mul_left n (by omega)
    have h2 : n * (b ^ i * u) ≤ n * m := Nat.mul_le_mul_left n (by omega)
    have h3 : n * u * b ^ i = n * (b ^ i * u) := by rw [Nat.mul_assoc, Nat.mul_comm u]
    have h4 : n * u ≤ n * (b ^ i * u) := Nat.mul_le_mul_left n (Nat.le_mul_of_pos_left u (Nat.pow_pos (by omega)))
    walk_at "s"
    refine ⟨_, _, _, _, rfl, hb, T.up ha, hul, by omega, t_retL T fun p1 H1 T => ?_⟩
    walk_at "s"
    refine ⟨_, _, _, _, rfl, hb.1, by walk_at "fact", Nat.le_trans (mono _ (Nat.le_trans h4 h2)) (by decide), by omega, t_retL T fun p2 H2 T => ?_⟩
    walk_at "s"
    refine ⟨_, _, _, _, _, rfl, hb, by walk_at "fact", by walk_at "fact", Nat.le_trans (mono _ h1) (by decide), Nat.le_trans (mono _ (by rw [h3]; exact h2)) (by decide), t_retL T fun p3 H3 T => ?_⟩
    walk_at "s"
    refine ⟨p3, _, _, rfl, ?_⟩
    have T := T.one 0 rfl
    rw [h3, ← Nat.mul_add, ← ev] at T
    exact T
  · rintro σ' H' ⟨e, y, z, rfl, T⟩
    walk_at "s"
    refine q.go T 0 ?_
    have e1 : (dig b m).length = (digits b m).length := iv_length _
    rw [e1, List.take_length, val_digits hb.1]
    rfl

/-! ### half_of, is_short -/
abbrev s_half_of : Stmt := topS 46
theorem sc_half_of : FnScope ["one", "other"] ["one", "other"] (defScope s_half_of) := ⟨rfl, rfl, rfl, by decide +kernel, rfl, by decide +kernel, by decide +kernel⟩
def spHalfOf : Sp := fun vs H Q _ => ∃ (a c : Addr) (xs ys : List V), vs = [.ref a, .ref c] ∧ H a = some (.lst xs) ∧ H c = some (.lst ys) ∧ RetV (.int (((max xs.length ys.length + 1) / 2 : Nat) : Int)) H Q
theorem ok_half_of {P : Program} {w : World} {K : PySem.W.Frag} {mg : Str → Option Value} {base : Heap} (D : Dfn K mg "half_of" s_half_of) (m_len : mg "len" = none) (m_max : mg "max" = none) : Cal P w K mg base CX0 "half_of" 1 ["one", "other"] spHalfOf := by
  refine cal0 D sc_half_of (fun _ _ _ _ _ _ us hl => match us, hl with | [_, _], _ => rfl) (fun vs H Q E h => ?_) (fun f cdv A outer s H vs Q E hr h => ?_)
  · obtain ⟨a, c, xs, ys, rfl, _⟩ := h
    rfl
  obtain ⟨a, c, xs, ys, rfl, ha, hc, q⟩ := h
  refine ⟨_, (pss_one (ps_ret (pe_op op_fdiv (pe_op op_add (pe_callB (call_max2' rfl) (by rfl) m_max (by decide +kernel) (pa_cons (pe_callB call_len1 (by rfl) m_len PySem.boot_len (pa_cons (pv 0) pa_nil)) (pa_cons (pe_callB call_len1 (by rfl) m_len PySem.boot_len (pa_cons (pv 1) pa_nil)) pa_nil))) pe_int) pe_int))), ?_⟩
  show tRet _ _ [some (.ref a), some (.ref c)] H
  walk_at "s"
  refine x_I ⟨by decide, by decide⟩ ?_
  have e : (max (xs.length : Int) (ys.length : Int) + 1) / 2 = (((max xs.length ys.length + 1) / 2 : Nat) : Int) := by omega
  rw [e]
  exact q H (Same.refl H)
abbrev s_is_short : Stmt := topS 47
theorem sc_is_short : FnScope ["one", "other", "least"] ["one", "other", "least"] (defScope s_is_short) := ⟨rfl, rfl, rfl, by decide +kernel, rfl, by decide +kernel, by decide +kernel⟩
def spIsShort : Sp := fun vs H Q _ => ∃ (a c : Addr) (xs ys : List V) (l : Nat), vs = [.ref a, .ref c, .int (l : Int)] ∧ H a = some (.lst xs) ∧ H c = some (.lst ys) ∧ RetV (.bl (decide (min xs.length ys.length ≤ l))) H Q
theorem ok_is_short {P : Program} {w : World} {K : PySem.W.Frag} {mg : Str → Option Value} {base : Heap} (D : Dfn K mg "is_short" s_is_short) (m_len : mg "len" = none) (m_min : mg "min" = none) : Cal P w K mg base CX0 "is_short" 1 ["one", "other", "least"] spIsShort := by
  refine cal0 D sc_is_short (fun _ _ _ _ _ _ us hl => match us, hl with | [_, _, _], _ => rfl) (fun vs H Q E h => ?_) (fun f cdv A outer s H vs Q E hr h => ?_)
  · obtain ⟨a, c, xs, ys, l, rfl, _⟩ := h
    rfl
  obtain ⟨a, c, xs, ys, l, rfl, ha, hc, q⟩ := h
  refine ⟨_, (pss_one (ps_ret (pe_cmpR op_le (pe_callB (call_min2' rfl) (by rfl) m_min (by decide +kernel) (pa_cons (pe_callB call_len1 (by rfl) m_len PySem.boot_len (pa_cons (pv 0) pa_nil)) (pa_cons (pe_callB call_len1 (by rfl) m_len PySem.boot_len (pa_cons (pv 1) pa_nil)) pa_nil))) (pv 2) (nomark _)))), ?_⟩
  show tRet _ _ [some (.ref a), some (.ref c), some (.int (l : Int))] H
  walk_at "s"
  have e : decide (min (xs.length : Int) (ys.length : Int) ≤ (l : Int)) = decide (min xs.length ys.length ≤ l) := by
    by_cases h : min xs.length ys.length ≤ l
    · rw [decide_eq_true h, decide_eq_true (by omega)]
    · rw [decide_eq_false h, decide_eq_false (by omega)]
  rw [e]
  exact q H (Same.refl H)

/-! ### by_halves: a promise for each depth -/
abbrev s_by_halves : Stmt := topS 48
theorem sc_by_halves : FnScope ["base", "one", "other", "least", "half", "low", "high", "low_too", "high_too", "lows", "highs", "all_of", "middle"] ["base", "one", "other", "least"] (defScope s_by_halves) := ⟨rfl, rfl, rfl, by decide +kernel, rfl, by decide +kernel, by decide +kernel⟩
def spByHalves (k : Nat) : Sp := fun vs H Q _ => ∃ (b n m l : Nat) (a c : Addr), vs = [.int (b : Int), .ref a, .ref c, .int (l : Int)] ∧ (2 ≤ b ∧ b ≤ 1000000) ∧ H a = some (.lst (dig b n)) ∧ H c = some (.lst (dig b m)) ∧ 3 ≤ l ∧ 1 ≤ k ∧
  (digits b n).length ≤ 2 ^ (k - 1) + 2 ∧ (digits b m).length ≤ 2 ^ (k - 1) + 2 ∧ (digits b n).length ≤ 1000 ∧ (digits b m).length ≤ 1000 ∧ RetL (dig b (n * m)) H Q
theorem step_by_halves {P : Program} {w : World} {K : PySem.W.Frag} {mg : Str → Option Value} {base : Heap} (k : Nat) (D : Dfn K mg "by_halves" s_by_halves)
    (C_is_short : Cal P w K mg base CX0 "is_short" 1 ["one", "other", "least"] spIsShort) (C_slowly : Cal P w K mg base CX0 "slowly" 3 ["base", "one", "other"] spSlowly) (C_half_of : Cal P w K mg base CX0 "half_of" 1 ["one", "other"] spHalfOf)
    (C_trimmed : Cal P w K mg base CX0 "trimmed" 1 ["figures"] spTrimmed) (C_summed : Cal P w K mg base CX0 "summed" 2 ["base", "one", "other"] spSummed) (C_less_by : Cal P w K mg base CX0 "less_by" 2 ["base", "one", "other"] spLessBy)
    (C_moved_up : Cal P w K mg base CX0 "moved_up" 1 ["row", "places"] spMovedUp) (C_by_halves : Cal P w K mg base CX0 "by_halves" (4 + k) ["base", "one", "other", "least"] (spByHalves k)) : Cal P w K mg base CX0 "by_halves" (4 + k + 1) ["base", "one", "other", "least"] (spByHalves (k + 1)) := by
  refine cal0 D sc_by_halves (fun _ _ _ _ _ _ us hl => match us, hl with | [_, _, _, _], _ => rfl) (fun vs H Q E h => ?_) (fun f cdv A outer s H vs Q E hr h => ?_)
  · obtain ⟨b, n, m, l, a, c, rfl, _⟩ := h
    rfl
  obtain ⟨b, n, m, l, a, c, rfl, hb, ha, hc, hl, _, hn, hm, hn1, hm1, q⟩ := h
  rw [Nat.add_sub_cancel] at hn hm
  refine ⟨_, (pss_cons (ps_if (pt_val (pc C_is_short hr (pa_cons (pv 1) (pa_cons (pv 2) (pa_cons (pv 3) pa_nil))))) (pss_one (ps_ret (pc C_slowly hr (pa_cons (pv 0) (pa_cons (pv 1) (pa_cons (pv 2) pa_nil)))))) pss_nil)
      (pss_cons (ps_set (i := 4) sc_by_halves.nd rfl (Or.inl rfl) (pc C_half_of hr (pa_cons (pv 1) (pa_cons (pv 2) pa_nil))))
      (pss_cons (ps_par (i := 5) (j := 6) rfl sc_by_halves.nd rfl rfl (by decide) rfl rfl (pa_cons (pc C_trimmed hr (pa_cons (pe_slice sl_list (pv 1) po_none (po_some (pv 4))) pa_nil)) (pa_cons (pe_slice sl_list (pv 1) (po_some (pv 4)) po_none) pa_nil)) (by rfl))
      (pss_cons (ps_par (i := 7) (j := 8) rfl sc_by_halves.nd rfl rfl (by decide) rfl rfl (pa_cons (pc C_trimmed hr (pa_cons (pe_slice sl_list (pv 2) po_none (po_some (pv 4))) pa_nil)) (pa_cons (pe_slice sl_list (pv 2) (po_some (pv 4)) po_none) pa_nil)) (by rfl))
      (pss_cons (ps_set (i := 9) sc_by_halves.nd rfl (Or.inl rfl) (pc C_by_halves hr (pa_cons (pv 0) (pa_cons (pv 5) (pa_cons (pv 7) (pa_cons (pv 3) pa_nil))))))
      (pss_cons (ps_set (i := 10) sc_by_halves.nd rfl (Or.inl rfl) (pc C_by_halves hr (pa_cons (pv 0) (pa_cons (pv 6) (pa_cons (pv 8) (pa_cons (pv 3) pa_nil))))))
      (pss_cons (ps_set (i := 11) sc_by_halves.nd rfl (Or.inl rfl) (pc C_by_halves hr (pa_cons (pv 0) (pa_cons (pc C_summed hr (pa_cons (pv 0) (pa_cons (pv 5) (pa_cons (pv 6) pa_nil)))) (pa_cons (pc C_summed hr (pa_cons (pv 0) (pa_cons (pv 7) (pa_cons (pv 8) pa_nil)))) (pa_cons (pv 3) pa_nil))))))
      (pss_cons (ps_set (i := 12) sc_by_halves.nd rfl (Or.inl rfl) (pc C_less_by hr (pa_cons (pv 0) (pa_cons (pc C_less_by hr (pa_cons (pv 0) (pa_cons (pv 11) (pa_cons (pv 9) pa_nil)))) (pa_cons (pv 10) pa_nil)))))
      (pss_one (ps_ret (pc C_summed hr (pa_cons (pv 0) (pa_cons (pc C_summed hr (pa_cons (pv 0) (pa_cons (pv 9) (pa_cons (pc C_moved_up hr (pa_cons (pv 12) (pa_cons (pv 4) pa_nil))) pa_nil)))) (pa_cons (pc C_moved_up hr (pa_cons (pv 10) (pa_cons (pe_op op_add (pv 4) (pv 4)) pa_nil))) pa_nil)))))))))))))), ?_⟩
  show tSeq _ _ _ [some (.int (b : Int)), some (.ref a), some (.ref c), some (.int (l : Int)), none, none, none, none, none, none, none, none, none] H
  have T := Trk.nil H
  have e1 : (dig b n).length = (digits b n).length := iv_length _
  have e2 : (dig b m).length = (digits b m).length := iv_length _
  walk_at "s"
  refine ⟨_, _, _, _, _, rfl, ha, hc, t_retV T fun H1 T => ?_⟩
  walk_at "s"
  refine if2 (fun h1 => ?_) (fun h1 => ?_)
  · walk_at "s"
    refine ⟨_, _, _, _, _, rfl, hb, T.up ha, T.up hc, by omega, by omega, t_retL T fun p H4 T => ?_⟩
    exact q.go T 0 rfl
  have h2 : ¬ min (dig b n).length (dig b m).length ≤ l := of_decide_eq_false h1
  rw [e1, e2] at h2
  have hk : 1 ≤ k := by
    rcases Nat.eq_zero_or_pos k with z | z
    · subst z
      have : (2 : Nat) ^ 0 = 1 := rfl
      omega
    · exact z
  have hpk : 2 ^ k = 2 * 2 ^ (k - 1) := by
    obtain ⟨j, rfl⟩ : ∃ j, k = j + 1 := ⟨k - 1, by omega⟩
    rw [Nat.pow_succ, Nat.add_sub_cancel, Nat.mul_comm]
  walk_at "s"
  refine ⟨_, _, _, _, rfl, T.up ha, T.up hc, t_retV T fun H2 T => ?_⟩
  rw [e1, e2]
  generalize hh : (max (digits b n).length (digits b m).length + 1) / 2 = h
  have hh1 : h ≤ 2 ^ (k - 1) + 1 := by omega
  have hh2 : (digits b n).length ≤ 2 * h := by omega
  have hh3 : (digits b m).length ≤ 2 * h := by omega
  have hh4 : h ≤ 501 := by omega
  clear hh
  walk_at "s"
  refine t_cut T (T.up ha) fun d1 T => ?_
  rw [cut_to, show (dig b n).take h = iv ((digits b n).take h) from (iv_take _ _).symm] at T ⊢
  walk_at "s"
  refine ⟨_, _, rfl, by walk_at "fact", by rw [List.length_take]; omega, ?_⟩
  rw [trim_take hb.1]
  refine t_retL T fun p1 H3 T => ?_
  walk_at "s"
  refine t_cut T (T.up ha) fun p2 T => ?_
  rw [cut_from, show (dig b n).drop h = dig b (n / b ^ h) by unfold dig; rw [← digits_drop hb.1, iv_drop]] at T ⊢
  walk_at "s"
  refine t_cut T (T.up hc) fun d2 T => ?_
  rw [cut_to, show (dig b m).take h = iv ((digits b m).take h) from (iv_take _ _).symm] at T ⊢
  walk_at "s"
  refine ⟨_, _, rfl, by walk_at "fact", by rw [List.length_take]; omega, ?_⟩
  rw [trim_take hb.1]
  refine t_retL T fun p3 H4 T => ?_
  walk_at "s"
  refine t_cut T (T.up hc) fun p4 T => ?_
  rw [cut_from, show (dig b m).drop h = dig b (m / b ^ h) by unfold dig; rw [← digits_drop hb.1, iv_drop]] at T ⊢
  -- the parts
  have hP : 0 < b ^ h := Nat.pow_pos (by omega)
  have a0 : (digits b (n % b ^ h)).length ≤ h := digits_len_le hb.1 (Nat.mod_lt _ hP)
  have b0 : (digits b (m % b ^ h)).length ≤ h := digits_len_le hb.1 (Nat.mod_lt _ hP)
  have a1 : (digits b (n / b ^ h)).length ≤ h := by
    rw [← digits_drop hb.1, List.length_drop]
    omega
  have b1 : (digits b (m / b ^ h)).length ≤ h := by
    rw [← digits_drop hb.1, List.length_drop]
    omega
  have dn : n = n % b ^ h + b ^ h * (n / b ^ h) := (Nat.mod_add_div n (b ^ h)).symm
  have dm : m = m % b ^ h + b ^ h * (m / b ^ h) := (Nat.mod_add_div m (b ^ h)).symm
  have hfin := halves_eq (n0 := n % b ^ h) (n1 := n / b ^ h) (m0 := m % b ^ h) (m1 := m / b ^ h) (B := b ^ h)
  rw [← dn, ← dm, ← Nat.pow_add] at hfin
  obtain ⟨l1, l2⟩ := halves_le (n0 := n % b ^ h) (n1 := n / b ^ h) (m0 := m % b ^ h) (m1 := m / b ^ h)
  generalize n % b ^ h = n0 at *
  generalize n / b ^ h = n1 at *
  generalize m % b ^ h = m0 at *
  generalize m / b ^ h = m1 at *
  have as := digits_len_add hb.1 a0 a1
  have bs := digits_len_add hb.1 b0 b1
  have c0 := digits_len_mul hb.1 a0 b0
  have c1 := digits_len_mul hb.1 a1 b1
  have c2 := digits_len_mul hb.1 as bs
  have c3 := digits_len_mono hb.1 (Nat.sub_le ((n0 + n1) * (m0 + m1)) (n0 * m0))
  have cL := digits_len_mul hb.1 hn1 hm1
  have w1 : n0 * m0 + ((n0 + n1) * (m0 + m1) - n0 * m0 - n1 * m1) * b ^ h ≤ n * m := by rw [← hfin]; exact Nat.le_add_right _ _
  have w2 : ((n0 + n1) * (m0 + m1) - n0 * m0 - n1 * m1) * b ^ h ≤ n * m := Nat.le_trans (Nat.le_add_left _ _) w1
  have w3 : n1 * m1 * b ^ (h + h) ≤ n * m := by rw [← hfin]; exact Nat.le_add_left _ _
  have c4 := digits_len_mono hb.1 w1
  have c5 := digits_len_mono hb.1 w2
  have c6 := digits_len_mono hb.1 w3
  have c7 := digits_len_mono hb.1 (Nat.sub_le ((n0 + n1) * (m0 + m1) - n0 * m0) (n1 * m1))
  have c8 := digits_len_mono hb.1 (show n0 * m0 ≤ n * m from Nat.le_trans (Nat.le_add_right _ _) w1)
  walk_at "s"
  refine ⟨_, _, _, _, _, _, rfl, hb, by walk_at "fact", by walk_at "fact", hl, hk, by omega, by omega, by omega, by omega, t_retL T fun p5 H5 T => ?_⟩
  walk_at "s"
  refine ⟨_, _, _, _, _, _, rfl, hb, by walk_at "fact", by walk_at "fact", hl, hk, by omega, by omega, by omega, by omega, t_retL T fun p6 H6 T => ?_⟩
  walk_at "s"
  refine ⟨_, _, _, _, _, rfl, hb, by walk_at "fact", by walk_at "fact", by omega, by omega, t_retL T fun p7 H7 T => ?_⟩
  walk_at "s"
  refine ⟨_, _, _, _, _, rfl, hb, by walk_at "fact", by walk_at "fact", by omega, by omega, t_retL T fun p8 H8 T => ?_⟩
  walk_at "s"
  refine ⟨_, _, _, _, _, _, rfl, hb, by walk_at "fact", by walk_at "fact", hl, hk, by omega, by omega, by omega, by omega, t_retL T fun p9 H9 T => ?_⟩
  walk_at "s"
  refine ⟨_, _, _, _, _, rfl, hb, by walk_at "fact", by walk_at "fact", by omega, l1, t_retL T fun p10 H10 T => ?_⟩
  walk_at "s"
  refine ⟨_, _, _, _, _, rfl, hb, by walk_at "fact", by walk_at "fact", by omega, l2, t_retL T fun p11 H11 T => ?_⟩
  walk_at "s"
  refine ⟨_, _, _, _, rfl, hb.1, by walk_at "fact", by omega, by omega, t_retL T fun p12 H12 T => ?_⟩
  walk_at "s"
  refine ⟨_, _, _, _, _, rfl, hb, by walk_at "fact", by walk_at "fact", by omega, by omega, t_retL T fun p13 H13 T => ?_⟩
  walk_at "s"
  rw [← Int.natCast_add]
  refine ⟨_, _, _, _, rfl, hb.1, by walk_at "fact", by omega, by omega, t_retL T fun p14 H14 T => ?_⟩
  walk_at "s"
  refine ⟨_, _, _, _, _, rfl, hb, by walk_at "fact", by walk_at "fact", by omega, by omega, t_retL T fun p15 H15 T => ?_⟩
  rw [hfin] at T
  exact q.go T 0 rfl
theorem ok_by_halves {P : Program} {w : World} {K : PySem.W.Frag} {mg : Str → Option Value} {base : Heap} (D : Dfn K mg "by_halves" s_by_halves)
    (C_is_short : Cal P w K mg base CX0 "is_short" 1 ["one", "other", "least"] spIsShort) (C_slowly : Cal P w K mg base CX0 "slowly" 3 ["base", "one", "other"] spSlowly) (C_half_of : Cal P w K mg base CX0 "half_of" 1 ["one", "other"] spHalfOf)
    (C_trimmed : Cal P w K mg base CX0 "trimmed" 1 ["figures"] spTrimmed) (C_summed : Cal P w K mg base CX0 "summed" 2 ["base", "one", "other"] spSummed) (C_less_by : Cal P w K mg base CX0 "less_by" 2 ["base", "one", "other"] spLessBy)
    (C_moved_up : Cal P w K mg base CX0 "moved_up" 1 ["row", "places"] spMovedUp) : Cal P w K mg base CX0 "by_halves" 13 ["base", "one", "other", "least"] (spByHalves 9) := by
  have all : ∀ k, Cal P w K mg base CX0 "by_halves" (4 + k) ["base", "one", "other", "least"] (spByHalves k) := by
    intro k
    induction k with
    | zero => exact cal_none D (fun _ _ _ _ _ _ us hl => match us, hl with | [_, _, _, _], _ => rfl) fun vs H Q E ⟨_, _, _, _, _, _, _, _, _, _, _, h, _⟩ => by omega
    | succ k ih => exact step_by_halves k D C_is_short C_slowly C_half_of C_trimmed C_summed C_less_by C_moved_up ih
  exact all 9

/-! ### efforts: a promise for each depth -/
abbrev s_efforts : Stmt := topS 50
theorem sc_efforts : FnScope ["base", "one", "other", "least", "half", "low", "high", "low_too", "high_too", "both"] ["base", "one", "other", "least"] (defScope s_efforts) := ⟨rfl, rfl, rfl, by decide +kernel, rfl, by decide +kernel, by decide +kernel⟩
def spEfforts (k : Nat) : Sp := fun vs H Q _ => ∃ (b n m l : Nat) (a c : Addr), vs = [.int (b : Int), .ref a, .ref c, .int (l : Int)] ∧ (2 ≤ b ∧ b ≤ 1000000) ∧ H a = some (.lst (dig b n)) ∧ H c = some (.lst (dig b m)) ∧ 3 ≤ l ∧ 1 ≤ k ∧
  (digits b n).length ≤ 2 ^ (k - 1) + 2 ∧ (digits b m).length ≤ 2 ^ (k - 1) + 2 ∧ (digits b n).length ≤ 1000 ∧ (digits b m).length ≤ 1000 ∧ RetV (.int ((eff k l b n m : Nat) : Int)) H Q
theorem step_efforts {P : Program} {w : World} {K : PySem.W.Frag} {mg : Str → Option Value} {base : Heap} (k : Nat) (D : Dfn K mg "efforts" s_efforts) (m_len : mg "len" = none)
    (C_is_short : Cal P w K mg base CX0 "is_short" 1 ["one", "other", "least"] spIsShort) (C_half_of : Cal P w K mg base CX0 "half_of" 1 ["one", "other"] spHalfOf)
    (C_trimmed : Cal P w K mg base CX0 "trimmed" 1 ["figures"] spTrimmed) (C_summed : Cal P w K mg base CX0 "summed" 2 ["base", "one", "other"] spSummed)
    (C_efforts : Cal P w K mg base CX0 "efforts" (3 + k) ["base", "one", "other", "least"] (spEfforts k)) : Cal P w K mg base CX0 "efforts" (3 + k + 1) ["base", "one", "other", "least"] (spEfforts (k + 1)) := by
  refine cal0 D sc_efforts (fun _ _ _ _ _ _ us hl => match us, hl with | [_, _, _, _], _ => rfl) (fun vs H Q E h => ?_) (fun f cdv A outer s H vs Q E hr h => ?_)
  · obtain ⟨b, n, m, l, a, c, rfl, _⟩ := h
    rfl
  obtain ⟨b, n, m, l, a, c, rfl, hb, ha, hc, hl, _, hn, hm, hn1, hm1, q⟩ := h
  rw [Nat.add_sub_cancel] at hn hm
  refine ⟨_, (pss_cons (ps_if (pt_val (pc C_is_short hr (pa_cons (pv 1) (pa_cons (pv 2) (pa_cons (pv 3) pa_nil))))) (pss_one (ps_ret (pe_op op_mul (pe_callB call_len1 (by rfl) m_len PySem.boot_len (pa_cons (pv 1) pa_nil)) (pe_callB call_len1 (by rfl) m_len PySem.boot_len (pa_cons (pv 2) pa_nil))))) pss_nil)
      (pss_cons (ps_set (i := 4) sc_efforts.nd rfl (Or.inl rfl) (pc C_half_of hr (pa_cons (pv 1) (pa_cons (pv 2) pa_nil))))
      (pss_cons (ps_par (i := 5) (j := 6) rfl sc_efforts.nd rfl rfl (by decide) rfl rfl (pa_cons (pc C_trimmed hr (pa_cons (pe_slice sl_list (pv 1) po_none (po_some (pv 4))) pa_nil)) (pa_cons (pe_slice sl_list (pv 1) (po_some (pv 4)) po_none) pa_nil)) (by rfl))
      (pss_cons (ps_par (i := 7) (j := 8) rfl sc_efforts.nd rfl rfl (by decide) rfl rfl (pa_cons (pc C_trimmed hr (pa_cons (pe_slice sl_list (pv 2) po_none (po_some (pv 4))) pa_nil)) (pa_cons (pe_slice sl_list (pv 2) (po_some (pv 4)) po_none) pa_nil)) (by rfl))
      (pss_cons (ps_set (i := 9) sc_efforts.nd rfl (Or.inl rfl) (pc C_efforts hr (pa_cons (pv 0) (pa_cons (pc C_summed hr (pa_cons (pv 0) (pa_cons (pv 5) (pa_cons (pv 6) pa_nil)))) (pa_cons (pc C_summed hr (pa_cons (pv 0) (pa_cons (pv 7) (pa_cons (pv 8) pa_nil)))) (pa_cons (pv 3) pa_nil))))))
      (pss_one (ps_ret (pe_op op_add (pe_op op_add (pc C_efforts hr (pa_cons (pv 0) (pa_cons (pv 5) (pa_cons (pv 7) (pa_cons (pv 3) pa_nil))))) (pc C_efforts hr (pa_cons (pv 0) (pa_cons (pv 6) (pa_cons (pv 8) (pa_cons (pv 3) pa_nil)))))) (pv 9))))))))), ?_⟩
  show tSeq _ _ _ [some (.int (b : Int)), some (.ref a), some (.ref c), some (.int (l : Int)), none, none, none, none, none, none] H
  have T := Trk.nil H
  have e1 : (dig b n).length = (digits b n).length := iv_length _
  have e2 : (dig b m).length = (digits b m).length := iv_length _
  walk_at "s"
  refine ⟨_, _, _, _, _, rfl, ha, hc, t_retV T fun H1 T => ?_⟩
  walk_at "s"
  refine if2 (fun h1 => ?_) (fun h1 => ?_)
  · have h2 : min (dig b n).length (dig b m).length ≤ l := of_decide_eq_true h1
    rw [e1, e2] at h2
    walk_at "s"
    rw [e1, e2]
    refine x_I (Or.inl ⟨by omega, by omega⟩) ?_
    rw [eff_short h2] at q
    rw [← Int.natCast_mul]
    exact q.go T
  have h2 : ¬ min (dig b n).length (dig b m).length ≤ l := of_decide_eq_false h1
  rw [e1, e2] at h2
  have hk : 1 ≤ k := by
    rcases Nat.eq_zero_or_pos k with z | z
    · subst z
      have : (2 : Nat) ^ 0 = 1 := rfl
      omega
    · exact z
  have hpk : 2 ^ k = 2 * 2 ^ (k - 1) := by
    obtain ⟨j, rfl⟩ : ∃ j, k = j + 1 := ⟨k - 1, by omega⟩
    rw [Nat.pow_succ, Nat.add_sub_cancel, Nat.mul_comm]
  walk_at "s"
  refine ⟨_, _, _, _, rfl, T.up ha, T.up hc, t_retV T fun H2 T => ?_⟩
  rw [e1, e2]
  generalize hh : (max (digits b n).length (digits b m).length + 1) / 2 = h
  rw [eff_long h2 hh] at q
  have hh1 : h ≤ 2 ^ (k - 1) + 1 := by omega
  have hh2 : (digits b n).length ≤ 2 * h := by omega
  have hh3 : (digits b m).length ≤ 2 * h := by omega
  have hh4 : h ≤ 501 := by omega
  clear hh
  walk_at "s"
  refine t_cut T (T.up ha) fun d1 T => ?_
  rw [cut_to, show (dig b n).take h = iv ((digits b n).take h) from (iv_take _ _).symm] at T ⊢
  walk_at "s"
  refine ⟨_, _, rfl, by walk_at "fact", by rw [List.length_take]; omega, ?_⟩
  rw [trim_take hb.1]
  refine t_retL T fun p1 H3 T => ?_
  walk_at "s"
  refine t_cut T (T.up ha) fun p2 T => ?_
  rw [cut_from, show (dig b n).drop h = dig b (n / b ^ h) by unfold dig; rw [← digits_drop hb.1, iv_drop]] at T ⊢
  walk_at "s"
  refine t_cut T (T.up hc) fun d2 T => ?_
  rw [cut_to, show (dig b m).take h = iv ((digits b m).take h) from (iv_take _ _).symm] at T ⊢
  walk_at "s"
  refine ⟨_, _, rfl, by walk_at "fact", by rw [List.length_take]; omega, ?_⟩
  rw [trim_take hb.1]
  refine t_retL T fun p3 H4 T => ?_
  walk_at "s"
  refine t_cut T (T.up hc) fun p4 T => ?_
  rw [cut_from, show (dig b m).drop h = dig b (m / b ^ h) by unfold dig; rw [← digits_drop hb.1, iv_drop]] at T ⊢
  have hP : 0 < b ^ h := Nat.pow_pos (by omega)
  have a0 : (digits b (n % b ^ h)).length ≤ h := digits_len_le hb.1 (Nat.mod_lt _ hP)
  have b0 : (digits b (m % b ^ h)).length ≤ h := digits_len_le hb.1 (Nat.mod_lt _ hP)
  have a1 : (digits b (n / b ^ h)).length ≤ h := by
    rw [← digits_drop hb.1, List.length_drop]
    omega
  have b1 : (digits b (m / b ^ h)).length ≤ h := by
    rw [← digits_drop hb.1, List.length_drop]
    omega
  generalize n % b ^ h = n0 at *
  generalize n / b ^ h = n1 at *
  generalize m % b ^ h = m0 at *
  generalize m / b ^ h = m1 at *
  have as := digits_len_add hb.1 a0 a1
  have bs := digits_len_add hb.1 b0 b1
  walk_at "s"
  refine ⟨_, _, _, _, _, rfl, hb, by walk_at "fact", by walk_at "fact", by omega, by omega, t_retL T fun p7 H7 T => ?_⟩
  walk_at "s"
  refine ⟨_, _, _, _, _, rfl, hb, by walk_at "fact", by walk_at "fact", by omega, by omega, t_retL T fun p8 H8 T => ?_⟩
  walk_at "s"
  refine ⟨_, _, _, _, _, _, rfl, hb, by walk_at "fact", by walk_at "fact", hl, hk, by omega, by omega, by omega, by omega, t_retV T fun H9 T => ?_⟩
  walk_at "s"
  refine ⟨_, _, _, _, _, _, rfl, hb, by walk_at "fact", by walk_at "fact", hl, hk, by omega, by omega, by omega, by omega, t_retV T fun H10 T => ?_⟩
  walk_at "s"
  refine ⟨_, _, _, _, _, _, rfl, hb, by walk_at "fact", by walk_at "fact", hl, hk, by omega, by omega, by omega, by omega, t_retV T fun H11 T => ?_⟩
  walk_at "s"
  rw [← Int.natCast_add, ← Int.natCast_add]
  exact q.go T
theorem ok_efforts {P : Program} {w : World} {K : PySem.W.Frag} {mg : Str → Option Value} {base : Heap} (D : Dfn K mg "efforts" s_efforts) (m_len : mg "len" = none)
    (C_is_short : Cal P w K mg base CX0 "is_short" 1 ["one", "other", "least"] spIsShort) (C_half_of : Cal P w K mg base CX0 "half_of" 1 ["one", "other"] spHalfOf)
    (C_trimmed : Cal P w K mg base CX0 "trimmed" 1 ["figures"] spTrimmed) (C_summed : Cal P w K mg base CX0 "summed" 2 ["base", "one", "other"] spSummed) : Cal P w K mg base CX0 "efforts" 12 ["base", "one", "other", "least"] (spEfforts 9) := by
  have all : ∀ k, Cal P w K mg base CX0 "efforts" (3 + k) ["base", "one", "other", "least"] (spEfforts k) := by
    intro k
    induction k with
    | zero => exact cal_none D (fun _ _ _ _ _ _ us hl => match us, hl with | [_, _, _, _], _ => rfl) fun vs H Q E ⟨_, _, _, _, _, _, _, _, _, _, _, h, _⟩ => by omega
    | succ k ih => exact step_efforts k D m_len C_is_short C_half_of C_trimmed C_summed ih
  exact all 9

/-! ### is_whole -/
abbrev s_is_whole : Stmt := topS 11
theorem sc_is_whole : FnScope ["thing"] ["thing"] (defScope s_is_whole) := ⟨rfl, rfl, rfl, by decide +kernel, rfl, by decide +kernel, by decide +kernel⟩
def spIsWhole : Sp := fun vs H Q _ => ∃ (x : V) (o : Option Int), vs = [x] ∧ Kd H x o ∧ RetV (.bl o.isSome) H Q
theorem ok_is_whole {P : Program} {w : World} {K : PySem.W.Frag} {mg : Str → Option Value} {base : Heap} (D : Dfn K mg "is_whole" s_is_whole) (m_isinstance : mg "isinstance" = none) (m_int : mg "int" = none) (m_bool : mg "bool" = none) : Cal P w K mg base CX0 "is_whole" 1 ["thing"] spIsWhole := by
  refine cal0 D sc_is_whole (fun _ _ _ _ _ _ us hl => match us, hl with | [_], _ => rfl) (fun vs H Q E h => ?_) (fun f cdv A outer s H vs Q E hr h => ?_)
  · obtain ⟨x, o, rfl, _⟩ := h
    rfl
  obtain ⟨x, o, rfl, hk, q⟩ := h
  obtain ⟨t, ty, hc⟩ := hk.ty (K := K)
  refine ⟨_, (pss_one (ps_ret (pe_and (pe_callB call_isi (by rfl) m_isinstance (by decide +kernel) (pa_cons (pv 0) (pa_cons (pe_bltn (v := .ty "int") (by rfl) m_int (by decide +kernel) rfl) pa_nil))) (pe_one (pe_not (pe_callB call_isi (by rfl) m_isinstance (by decide +kernel) (pa_cons (pv 0) (pa_cons (pe_bltn (v := .ty "bool") (by rfl) m_bool (by decide +kernel) rfl) pa_nil)))))))), ?_⟩
  show tRet _ _ [some x] H
  walk_at "s"
  rcases hc with ⟨e, h1, h2⟩ | ⟨e, h1⟩ | ⟨e, h1, h2⟩
  · refine x_isi ty h1 ?_
    walk_at "s"
    refine x_isi ty h2 ?_
    walk_at "s"
    rw [e] at q
    exact q H (Same.refl H)
  · refine x_isi ty h1 ?_
    walk_at "s"
    rw [e] at q
    exact q H (Same.refl H)
  · refine x_isi ty h1 ?_
    walk_at "s"
    refine x_isi ty h2 ?_
    walk_at "s"
    rw [e] at q
    exact q H (Same.refl H)
/-! ### is_base -/
abbrev s_is_base : Stmt := topS 12
theorem sc_is_base : FnScope ["base"] ["base"] (defScope s_is_base) := ⟨rfl, rfl, rfl, by decide +kernel, rfl, by decide +kernel, by decide +kernel⟩
def isB (o : Option Int) : Bool := match o with
  | some i => decide (2 ≤ i) && decide (i ≤ 1000000)
  | none => false
def spIsBase : Sp := fun vs H Q _ => ∃ (x : V) (o : Option Int), vs = [x] ∧ Kd H x o ∧ RetV (.bl (isB o)) H Q
theorem Kd.some_int {H : Hp} {x : V} {i : Int} (k : Kd H x (some i)) : x = .int i := by
  cases k
  rfl
theorem ok_is_base {P : Program} {w : World} {K : PySem.W.Frag} {mg : Str → Option Value} {base : Heap} (D : Dfn K mg "is_base" s_is_base) (gc_LEAST_BASE : ∃ t, mg "LEAST_BASE" = some (.int 2 t)) (gc_MOST_BASE : ∃ t, mg "MOST_BASE" = some (.int 1000000 t))
    (C_is_whole : Cal P w K mg base CX0 "is_whole" 1 ["thing"] spIsWhole) : Cal P w K mg base CX0 "is_base" 2 ["base"] spIsBase := by
  refine cal0 D sc_is_base (fun _ _ _ _ _ _ us hl => match us, hl with | [_], _ => rfl) (fun vs H Q E h => ?_) (fun f cdv A outer s H vs Q E hr h => ?_)
  · obtain ⟨x, o, rfl, _⟩ := h
    rfl
  obtain ⟨x, o, rfl, hk, q⟩ := h
  obtain ⟨t1, g1⟩ := gc_LEAST_BASE
  obtain ⟨t2, g2⟩ := gc_MOST_BASE
  refine ⟨_, (pss_one (ps_ret (pe_and (pc C_is_whole hr (pa_cons (pv 0) pa_nil)) (pe_one (pe_chain op_le op_le (pe_glob (v := .int 2) (by rfl) g1 ⟨_, rfl⟩) (pv 0) (pe_glob (v := .int 1000000) (by rfl) g2 ⟨_, rfl⟩)))))), ?_⟩
  show tRet _ _ [some x] H
  walk_at "s"
  refine ⟨_, _, rfl, hk, fun H1 s1 => ?_⟩
  cases o with
  | none =>
    walk_at "s"
    exact q _ s1
  | some i =>
    cases hk.some_int
    walk_at "s"
    refine ifT rfl ?_
    walk_at "s"
    have q1 := q H1 s1
    have q2 : Q (.bl (decide (2 ≤ i) && decide (i ≤ 1000000))) H1 := q1
    refine if2 (fun h1 => ?_) (fun h1 => ?_)
    · rw [h1, Bool.true_and] at q2
      walk_at "s"
      exact q2
    · rw [h1, Bool.false_and] at q2
      exact q2
/-! ### need_base, of a good base -/
abbrev s_need_base : Stmt := topS 13
theorem sc_need_base : FnScope ["base"] ["base"] (defScope s_need_base) := ⟨rfl, rfl, rfl, by decide +kernel, rfl, by decide +kernel, by decide +kernel⟩
theorem isB_nat {b : Nat} (hb : 2 ≤ b ∧ b ≤ 1000000) : isB (some (b : Int)) = true := by
  show (decide (2 ≤ (b : Int)) && decide ((b : Int) ≤ 1000000)) = true
  rw [decide_eq_true (by omega), decide_eq_true (by omega)]
  rfl
def spNeedBase : Sp := fun vs H Q _ => ∃ (b : Nat), vs = [.int (b : Int)] ∧ (2 ≤ b ∧ b ≤ 1000000) ∧ RetV .non H Q
theorem ok_need_base {P : Program} {w : World} {K : PySem.W.Frag} {mg : Str → Option Value} {base : Heap} (D : Dfn K mg "need_base" s_need_base) (C_is_base : Cal P w K mg base CX0 "is_base" 2 ["base"] spIsBase) : Cal P w K mg base CX0 "need_base" 3 ["base"] spNeedBase := by
  refine cal0 D sc_need_base (fun _ _ _ _ _ _ us hl => match us, hl with | [_], _ => rfl) (fun vs H Q E h => ?_) (fun f cdv A outer s H vs Q E hr h => ?_)
  · obtain ⟨x, rfl, _⟩ := h
    rfl
  obtain ⟨b, rfl, hb, q⟩ := h
  refine ⟨_, (pss_one (ps_if (pt_not (pt_val (pc C_is_base hr (pa_cons (pv 0) pa_nil)))) (pss_one ps_never) pss_nil)), ?_⟩
  show tIfS _ _ _ _ [some (.int (b : Int))] H
  walk_at "s"
  refine ⟨_, _, rfl, .int _, fun H1 s1 => ?_⟩
  rw [isB_nat hb]
  walk_at "s"
  exact q _ s1
/-! ### is_figure -/
abbrev s_is_figure : Stmt := topS 14
theorem sc_is_figure : FnScope ["base", "figure"] ["base", "figure"] (defScope s_is_figure) := ⟨rfl, rfl, rfl, by decide +kernel, rfl, by decide +kernel, by decide +kernel⟩
def figB (b : Nat) (o : Option Int) : Bool := match o with
  | some i => decide (0 ≤ i) && decide (i < (b : Int))
  | none => false
def spIsFigure : Sp := fun vs H Q _ => ∃ (b : Nat) (x : V) (o : Option Int), vs = [.int (b : Int), x] ∧ (2 ≤ b ∧ b ≤ 1000000) ∧ Kd H x o ∧ RetV (.bl (figB b o)) H Q
theorem ok_is_figure {P : Program} {w : World} {K : PySem.W.Frag} {mg : Str → Option Value} {base : Heap} (D : Dfn K mg "is_figure" s_is_figure)
    (C_is_whole : Cal P w K mg base CX0 "is_whole" 1 ["thing"] spIsWhole) (C_need_base : Cal P w K mg base CX0 "need_base" 3 ["base"] spNeedBase) : Cal P w K mg base CX0 "is_figure" 4 ["base", "figure"] spIsFigure := by
  refine cal0 D sc_is_figure (fun _ _ _ _ _ _ us hl => match us, hl with | [_, _], _ => rfl) (fun vs H Q E h => ?_) (fun f cdv A outer s H vs Q E hr h => ?_)
  · obtain ⟨b, x, o, rfl, _⟩ := h
    rfl
  obtain ⟨b, x, o, rfl, hb, hk, q⟩ := h
  refine ⟨_, (pss_cons (ps_expr (pc C_need_base hr (pa_cons (pv 0) pa_nil)))
      (pss_one (ps_ret (pe_and (pc C_is_whole hr (pa_cons (pv 1) pa_nil)) (pe_one (pe_chain op_le op_lt pe_int (pv 1) (pv 0))))))), ?_⟩
  show tSeq _ _ _ [some (.int (b : Int)), some x] H
  walk_at "s"
  refine ⟨_, rfl, hb, fun H1 s1 => ?_⟩
  walk_at "s"
  refine ⟨_, _, rfl, hk.mono s1, fun H2 s2 => ?_⟩
  cases o with
  | none =>
    walk_at "s"
    exact q _ (s1.trans s2)
  | some i =>
    cases hk.some_int
    walk_at "s"
    refine ifT rfl ?_
    walk_at "s"
    have q1 := q H2 (s1.trans s2)
    have q2 : Q (.bl (decide (0 ≤ i) && decide (i < (b : Int)))) H2 := q1
    refine if2 (fun h1 => ?_) (fun h1 => ?_)
    · rw [h1, Bool.true_and] at q2
      walk_at "s"
      exact q2
    · rw [h1, Bool.false_and] at q2
      exact q2
/-! ### is_row -/
abbrev s_is_row : Stmt := topS 15
theorem sc_is_row : FnScope ["base", "row", "figure"] ["base", "row"] (defScope s_is_row) := ⟨rfl, rfl, rfl, by decide +kernel, rfl, by decide +kernel, by decide +kernel⟩
def rowB (b : Nat) (ks : List (Option Int)) : Bool := ks.all (figB b) && (match ks.getLast? with
  | none => true
  | some o => !decide (o = some 0))
def RowK (H : Hp) (b : Nat) (x : V) (r : Bool) : Prop := (∃ (a : Addr) (xs : List V) (ks : List (Option Int)), x = .ref a ∧ H a = some (.lst xs) ∧ Paired (Kd H) xs ks ∧ ks.length ≤ 50000 ∧ r = rowB b ks) ∨ (NoL H x ∧ r = false)
def spIsRow : Sp := fun vs H Q _ => ∃ (b : Nat) (x : V) (r : Bool), vs = [.int (b : Int), x] ∧ (2 ≤ b ∧ b ≤ 1000000) ∧ RowK H b x r ∧ RetV (.bl r) H Q
theorem paired_mono {H H' : Hp} (s : Same H H') : ∀ {xs : List V} {ks : List (Option Int)}, Paired (Kd H) xs ks → Paired (Kd H') xs ks
  | _, _, .nil => .nil
  | _, _, .cons r t => .cons (r.mono s) (paired_mono s t)
theorem paired_get {H : Hp} : ∀ {xs : List V} {ks : List (Option Int)} {i : Nat} {x : V}, Paired (Kd H) xs ks → xs[i]? = some x → ∃ o, ks[i]? = some o ∧ Kd H x o
  | _, _, _, _, .nil, e => by simp at e
  | _, _, 0, x, .cons r t, e => ⟨_, rfl, by
    have e1 := Option.some.inj e
    rw [← e1]
    exact r⟩
  | _, _, i + 1, x, .cons r t, e => by
    rw [List.getElem?_cons_succ] at e ⊢
    exact paired_get t e
theorem paired_len {H : Hp} : ∀ {xs : List V} {ks : List (Option Int)}, Paired (Kd H) xs ks → xs.length = ks.length
  | _, _, .nil => rfl
  | _, _, .cons r t => by rw [List.length_cons, List.length_cons, paired_len t]
/-- when all are figures, the list is one of numbers -/
theorem paired_figs {H : Hp} {b : Nat} : ∀ {xs : List V} {ks : List (Option Int)}, Paired (Kd H) xs ks → ks.all (figB b) = true → ∃ l : List Nat, xs = iv l ∧ ks = l.map fun (n : Nat) => some (n : Int)
  | _, _, .nil, _ => ⟨[], rfl, rfl⟩
  | _, _, .cons (b := o) r t, h => by
    rw [List.all_cons, Bool.and_eq_true] at h
    obtain ⟨l, e1, e2⟩ := paired_figs t h.2
    cases o with
    | none => exact absurd (show false = true from h.1) Bool.false_ne_true
    | some i =>
      have h1 : (decide (0 ≤ i) && decide (i < (b : Int))) = true := h.1
      rw [Bool.and_eq_true] at h1
      have h2 : 0 ≤ i := of_decide_eq_true h1.1
      refine ⟨i.toNat :: l, ?_, ?_⟩
      · rw [r.some_int, e1]
        show _ = V.int (i.toNat : Int) :: iv l
        rw [Int.toNat_of_nonneg h2]
      · rw [e2, List.map_cons, Int.toNat_of_nonneg h2]
theorem rowB_iv {b : Nat} {l : List Nat} (h : (l.map fun (n : Nat) => some (n : Int)).all (figB b) = true) : rowB b (l.map fun (n : Nat) => some (n : Int)) = (match l.getLast? with
    | none => true
    | some x => !decide ((x : Int) = 0)) := by
  unfold rowB
  rw [h, Bool.true_and, List.getLast?_map]
  cases l.getLast? with
  | none => rfl
  | some x =>
    show (!decide (some (x : Int) = some 0)) = _
    congr 1
    by_cases z : (x : Int) = 0
    · rw [decide_eq_true z, decide_eq_true (by rw [z])]
    · rw [decide_eq_false z, decide_eq_false (fun q => z (Option.some.inj q))]
theorem ok_is_row {P : Program} {w : World} {K : PySem.W.Frag} {mg : Str → Option Value} {base : Heap} (D : Dfn K mg "is_row" s_is_row) (m_isinstance : mg "isinstance" = none) (m_list : mg "list" = none)
    (C_need_base : Cal P w K mg base CX0 "need_base" 3 ["base"] spNeedBase) (C_is_figure : Cal P w K mg base CX0 "is_figure" 4 ["base", "figure"] spIsFigure) : Cal P w K mg base CX0 "is_row" 5 ["base", "row"] spIsRow := by
  refine cal0 D sc_is_row (fun _ _ _ _ _ _ us hl => match us, hl with | [_, _], _ => rfl) (fun vs H Q E h => ?_) (fun f cdv A outer s H vs Q E hr h => ?_)
  · obtain ⟨b, x, r, rfl, _⟩ := h
    rfl
  obtain ⟨b, x, r, rfl, hb, hk, q⟩ := h
  refine ⟨_, (pss_cons (ps_expr (pc C_need_base hr (pa_cons (pv 0) pa_nil)))
      (pss_cons (ps_if (pt_not (pt_val (pe_callB call_isi (by rfl) m_isinstance (by decide +kernel) (pa_cons (pv 1) (pa_cons (pe_bltn (v := .ty "list") (by rfl) m_list (by decide +kernel) rfl) pa_nil))))) (pss_one (ps_ret pe_bl)) pss_nil)
      (pss_cons (ps_for PassesOwn.never rfl (pi_list (pv 1)) (pg_name (i := 2) sc_is_row.nd rfl (Or.inl rfl)) (pss_one (ps_if (pt_not (pt_val (pc C_is_figure hr (pa_cons (pv 0) (pa_cons (pv 2) pa_nil))))) (pss_one (ps_ret pe_bl)) pss_nil)))
      (pss_one (ps_ret (pe_or (pe_cmpR (op_eqD hr.units) (pv 1) (pe_lst pa_nil) (nomark _)) (pe_one (pe_cmpR op_ne (pe_ix ix_list (pv 1) (pe_un un_neg pe_int) (fun _ _ => rfl)) pe_int (nomark _))))))))), ?_⟩
  show tSeq _ _ _ [some (.int (b : Int)), some x, none] H
  walk_at "s"
  refine ⟨_, rfl, hb, fun H1 s1 => ?_⟩
  walk_at "s"
  rcases hk with ⟨a, xs, ks, rfl, ha, hp, hl, rfl⟩ | ⟨hn, rfl⟩
  · have T := (Trk.nil H).call s1
    refine x_isiL (T.up ha) ?_
    walk_at "s"
    refine for_list (xs := xs) (fun i σ' H' => (∃ y, σ' = [some (.int (b : Int)), some (.ref a), y]) ∧ Trk H H' [] ∧ (ks.take i).all (figB b) = true) ⟨⟨none, rfl⟩, T, by rw [List.take_zero]; rfl⟩ ?_ ?_ ?_
    · rintro i σ' H' hi ⟨_, T, _⟩
      exact SqL.of (T.up ha)
    · rintro i x σ' H' hx ⟨⟨y, rfl⟩, T, hall⟩
      obtain ⟨o, ho, hkd⟩ := paired_get hp hx
      walk_at "s"
      refine ⟨_, _, _, rfl, hb, hkd.mono T.same, fun H2 s2 => ?_⟩
      have T := T.call s2
      cases hf : figB b o with
      | true =>
        walk_at "s"
        refine ⟨⟨_, rfl⟩, T, ?_⟩
        rw [List.take_add_one, ho, List.all_append, hall]
        show (true && (figB b o && true)) = true
        rw [hf]
        rfl
      | false =>
        walk_at "s"
        have e : rowB b ks = false := by
          unfold rowB
          have : ks.all (figB b) = false := by
            cases hq : ks.all (figB b) with
            | false => rfl
            | true =>
              have := List.all_eq_true.mp hq o (List.mem_of_getElem? ho)
              rw [hf] at this
              cases this
          rw [this, Bool.false_and]
        rw [e] at q
        exact q.go T
    · rintro σ' H' ⟨⟨y, rfl⟩, T, hall⟩
      rw [List.take_of_length_le (by rw [paired_len hp]; exact Nat.le_refl _)] at hall
      obtain ⟨l, rfl, rfl⟩ := paired_figs hp hall
      rw [rowB_iv hall] at q
      walk_at "s"
      refine ⟨Nat.zero_le _, fun d hd => ?_⟩
      have T := T.lay (o := .lst []) hd
      refine x_eqL (l := l) (m := []) (by walk_at "fact") (by walk_at "fact") ?_
      walk_at "s"
      refine if2 (fun h1 => ?_) (fun h1 => ?_)
      · have h2 : l = [] := of_decide_eq_true h1
        subst h2
        exact q.go T
      · have h2 : ¬ l = [] := of_decide_eq_false h1
        rw [List.getLast?_eq_some_getLast h2] at q
        walk_at "s"
        refine x_ix (v := .int ((l.getLast h2 : Nat) : Int)) (T.up ha) ?_ ?_
        · have e := atI_last (iv l.dropLast) (V.int ((l.getLast h2 : Nat) : Int))
          rw [← iv_snoc, List.dropLast_concat_getLast] at e
          exact e
        walk_at "s"
        exact q.go T
  · obtain ⟨t, ty, kb⟩ := (hn.mono s1).ty (K := K)
    refine x_isi ty kb ?_
    walk_at "s"
    exact q _ s1
/-! ### need_row, of a row -/
abbrev s_need_row : Stmt := topS 16
theorem sc_need_row : FnScope ["base", "row"] ["base", "row"] (defScope s_need_row) := ⟨rfl, rfl, rfl, by decide +kernel, rfl, by decide +kernel, by decide +kernel⟩
def spNeedRow : Sp := fun vs H Q _ => ∃ (b n : Nat) (a : Addr), vs = [.int (b : Int), .ref a] ∧ (2 ≤ b ∧ b ≤ 1000000) ∧ H a = some (.lst (dig b n)) ∧ (digits b n).length ≤ 50000 ∧ RetV .non H Q
theorem paired_iv {H : Hp} : ∀ l : List Nat, Paired (Kd H) (iv l) (l.map fun (n : Nat) => some (n : Int))
  | [] => .nil
  | x :: l => .cons (.int _) (paired_iv l)
theorem all_figs {b : Nat} {l : List Nat} (h : AllLt b l) : (l.map fun (n : Nat) => some (n : Int)).all (figB b) = true := by
  rw [List.all_map, List.all_eq_true]
  intro x hx
  have := h x hx
  show (decide (0 ≤ (x : Int)) && decide ((x : Int) < (b : Int))) = true
  rw [decide_eq_true (by omega), decide_eq_true (by omega)]
  rfl
theorem rowB_dig {b n : Nat} (hb : 2 ≤ b) : rowB b ((digits b n).map fun (n : Nat) => some (n : Int)) = true := by
  rw [rowB_iv (all_figs (digits_lt hb n))]
  cases h : (digits b n).getLast? with
  | none => rfl
  | some x =>
    obtain ⟨l, e⟩ := List.getLast?_eq_some_iff.mp h
    have := digits_last hb e
    show (!decide ((x : Int) = 0)) = true
    rw [decide_eq_false (by omega)]
    rfl
theorem rowK_dig {H : Hp} {b n : Nat} {a : Addr} (hb : 2 ≤ b) (ha : H a = some (.lst (dig b n))) (hl : (digits b n).length ≤ 50000) : RowK H b (.ref a) true :=
  .inl ⟨a, _, _, rfl, ha, paired_iv _, by rw [List.length_map]; exact hl, (rowB_dig hb).symm⟩
theorem ok_need_row {P : Program} {w : World} {K : PySem.W.Frag} {mg : Str → Option Value} {base : Heap} (D : Dfn K mg "need_row" s_need_row) (C_is_row : Cal P w K mg base CX0 "is_row" 5 ["base", "row"] spIsRow) : Cal P w K mg base CX0 "need_row" 6 ["base", "row"] spNeedRow := by
  refine cal0 D sc_need_row (fun _ _ _ _ _ _ us hl => match us, hl with | [_, _], _ => rfl) (fun vs H Q E h => ?_) (fun f cdv A outer s H vs Q E hr h => ?_)
  · obtain ⟨b, n, a, rfl, _⟩ := h
    rfl
  obtain ⟨b, n, a, rfl, hb, ha, hl, q⟩ := h
  refine ⟨_, (pss_one (ps_if (pt_not (pt_val (pc C_is_row hr (pa_cons (pv 0) (pa_cons (pv 1) pa_nil))))) (pss_one ps_never) pss_nil)), ?_⟩
  show tIfS _ _ _ _ [some (.int (b : Int)), some (.ref a)] H
  walk_at "s"
  refine ⟨_, _, _, rfl, hb, rowK_dig hb.1 ha hl, fun H1 s1 => ?_⟩
  walk_at "s"
  exact q _ s1

/-! ### row_of, of a number -/
abbrev s_row_of : Stmt := topS 20
theorem sc_row_of : FnScope ["base", "number", "row"] ["base", "number"] (defScope s_row_of) := ⟨rfl, rfl, rfl, by decide +kernel, rfl, by decide +kernel, by decide +kernel⟩
def spRowOf : Sp := fun vs H Q _ => ∃ (b n : Nat), vs = [.int (b : Int), .int (n : Int)] ∧ (2 ≤ b ∧ b ≤ 1000000) ∧ (digits b n).length ≤ 40000 ∧ RetL (dig b n) H Q
theorem ok_row_of {P : Program} {w : World} {K : PySem.W.Frag} {mg : Str → Option Value} {base : Heap} (D : Dfn K mg "row_of" s_row_of)
    (C_need_base : Cal P w K mg base CX0 "need_base" 3 ["base"] spNeedBase) (C_is_whole : Cal P w K mg base CX0 "is_whole" 1 ["thing"] spIsWhole) : Cal P w K mg base CX0 "row_of" 4 ["base", "number"] spRowOf := by
  refine cal0 D sc_row_of (fun _ _ _ _ _ _ us hl => match us, hl with | [_, _], _ => rfl) (fun vs H Q E h => ?_) (fun f cdv A outer s H vs Q E hr h => ?_)
  · obtain ⟨b, n, rfl, _⟩ := h
    rfl
  obtain ⟨b, n, rfl, hb, hl, q⟩ := h
  refine ⟨_, (pss_cons (ps_expr (pc C_need_base hr (pa_cons (pv 0) pa_nil)))
      (pss_cons (ps_if (pt_not (pt_val (pc C_is_whole hr (pa_cons (pv 1) pa_nil)))) (pss_one ps_never) pss_nil)
      (pss_cons (ps_if (pt_cmpR op_lt (pv 1) pe_int (nomark _)) (pss_one ps_never) pss_nil)
      (pss_cons (ps_set (i := 2) sc_row_of.nd rfl (Or.inl rfl) (pe_lst pa_nil))
      (pss_cons (ps_while PassesOwn.never (pt_cmpR op_gt (pv 1) pe_int (nomark _)) (pss_cons (ps_expr (pe_bm PySem.F.plainAttrs_list PySem.F.slot_list_append PySem.F.type_list_append mt_append (pv 2) (pa_cons (pe_op op_mod (pv 1) (pv 0)) pa_nil)))
      (pss_one (ps_set (i := 1) sc_row_of.nd rfl (Or.inl rfl) (pe_op op_fdiv (pv 1) (pv 0))))))
      (pss_one (ps_ret (pv 2)))))))), ?_⟩
  show tSeq _ _ _ [some (.int (b : Int)), some (.int (n : Int)), none] H
  walk_at "s"
  refine ⟨_, rfl, hb, fun H1 s1 => ?_⟩
  have T := (Trk.nil H).call s1
  walk_at "s"
  refine ⟨_, _, rfl, .int _, fun H2 s2 => ?_⟩
  have T := T.call s2
  walk_at "s"
  refine ifF rfl ?_
  walk_at "s"
  refine ifF (decide_eq_false (by omega)) ?_
  walk_at "s"
  refine ⟨Nat.zero_le _, fun d hd => ?_⟩
  have T := T.lay (o := .lst []) hd
  walk_at "s"
  refine x_while (fun m σ' H' => ∃ acc : List Nat, σ' = [some (.int (b : Int)), some (.int (m : Int)), some (.ref d)] ∧ acc ++ digits b m = digits b n ∧ Trk H H' [(d, .lst (iv acc))]) n ⟨[], rfl, rfl, T⟩ ?_
  rintro m σ' H' ⟨acc, rfl, hacc, T⟩
  have hal : acc.length ≤ 40000 := by
    have := congrArg List.length hacc
    rw [List.length_append] at this
    omega
  walk_at "s"
  refine if2 (fun h1 => ?_) (fun h1 => ?_)
  · have h2 : (0 : Int) < (m : Int) := of_decide_eq_true h1
    refine x_turn ?_
    walk_at "s"
    refine x_I (by omega) ?_
    rw [nat_mod_cast]
    walk_at "s"
    refine x_app (by walk_at "fact") (by rw [iv_length]; omega) ?_
    have T := T.mut 0 rfl (o' := .lst (iv acc ++ [V.int (m % b : Nat)]))
    walk_at "s"
    refine x_I ⟨by omega, by omega⟩ ?_
    rw [nat_div_cast]
    walk_at "s"
    refine ⟨m / b, Nat.div_lt_self (by omega) hb.1, acc ++ [m % b], rfl, ?_, ?_⟩
    · rw [← hacc, digits_pos hb.1 (by omega : 0 < m), List.append_assoc]
      rfl
    · rw [iv_snoc]
      exact T
  · have h2 : ¬ (0 : Int) < (m : Int) := of_decide_eq_false h1
    have h3 : m = 0 := by omega
    subst h3
    walk_at "s"
    refine q.go T 0 ?_
    rw [digits_zero, List.append_nil] at hacc
    rw [hacc]
    rfl

/-! ### parts_of -/
abbrev s_parts_of : Stmt := topS 34
theorem sc_parts_of : FnScope ["base", "row", "figure", "found", "left", "own", "total"] ["base", "row", "figure"] (defScope s_parts_of) := ⟨rfl, rfl, rfl, by decide +kernel, rfl, by decide +kernel, by decide +kernel⟩
def spPartsOf : Sp := fun vs H Q _ => ∃ (b n f : Nat) (a : Addr), vs = [.int (b : Int), .ref a, .int (f : Int)] ∧ (2 ≤ b ∧ b ≤ 1000000) ∧ H a = some (.lst (dig b n)) ∧ (1 ≤ f ∧ f ≤ 1000000) ∧ (digits b n).length ≤ 40000 ∧ RetP (dig b (n / f)) (.int ((n % f : Nat) : Int)) H Q
theorem ok_parts_of {P : Program} {w : World} {K : PySem.W.Frag} {mg : Str → Option Value} {base : Heap} (D : Dfn K mg "parts_of" s_parts_of) (m_reversed : mg "reversed" = none)
    (C_trimmed : Cal P w K mg base CX0 "trimmed" 1 ["figures"] spTrimmed) : Cal P w K mg base CX0 "parts_of" 2 ["base", "row", "figure"] spPartsOf := by
  refine cal0 D sc_parts_of (fun _ _ _ _ _ _ us hl => match us, hl with | [_, _, _], _ => rfl) (fun vs H Q E h => ?_) (fun f cdv A outer s H vs Q E hr h => ?_)
  · obtain ⟨b, n, f, a, rfl, _⟩ := h
    rfl
  obtain ⟨b, n, fg, a, rfl, ⟨hb, hb6⟩, ha, ⟨hf, hf6⟩, hn, q⟩ := h
  have la := digits_lt hb n
  refine ⟨_, (pss_cons (ps_set (i := 3) sc_parts_of.nd rfl (Or.inl rfl) (pe_lst pa_nil))
      (pss_cons (ps_set (i := 4) sc_parts_of.nd rfl (Or.inl rfl) pe_int)
      (pss_cons (ps_for PassesOwn.never rfl (pi_reversed (by rfl) m_reversed (pa_cons (pv 1) pa_nil)) (pg_name (i := 5) sc_parts_of.nd rfl (Or.inl rfl)) (pss_cons (ps_set (i := 6) sc_parts_of.nd rfl (Or.inl rfl) (pe_op op_add (pe_op op_mul (pv 4) (pv 0)) (pv 5)))
      (pss_cons (ps_expr (pe_bm PySem.F.plainAttrs_list PySem.F.slot_list_append PySem.F.type_list_append mt_append (pv 3) (pa_cons (pe_op op_fdiv (pv 6) (pv 2)) pa_nil)))
      (pss_one (ps_set (i := 4) sc_parts_of.nd rfl (Or.inl rfl) (pe_op op_mod (pv 6) (pv 2)))))))
      (pss_one (ps_ret (pe_tup (pa_cons (pc C_trimmed hr (pa_cons (pe_revL (pv 3)) pa_nil)) (pa_cons (pv 4) pa_nil)))))))), ?_⟩
  show tSeq _ _ _ [some (.int (b : Int)), some (.ref a), some (.int (fg : Int)), none, none, none, none] H
  have T := Trk.nil H
  walk_at "s"
  refine t_new T (Nat.le_of_ble_eq_true rfl) fun d T => ?_
  walk_at "s"
  refine RT.for_Itv (xs := dig b n) (fun i σ' H' => ∃ acc left y z, σ' = [some (.int (b : Int)), some (.ref a), some (.int (fg : Int)), some (.ref d), some (.int ((left : Nat) : Int)), y, z] ∧ PartI b (top b (digits b n) i) fg i acc left ∧ Trk H H' [(d, .lst (iv acc))])
    ⟨[], 0, none, none, rfl, by rw [top_zero]; exact PartI.start (by omega), T⟩ ?_ ?_ ?_
  · rintro i σ' H' ⟨_, _, _, _, _, _, T⟩
    exact SqL.of (T.up ha)
  · rintro i x σ' H' hi hx ⟨acc, left, y, z, rfl, S, T⟩
    obtain ⟨u, hu, rfl⟩ := iv_at hx
    have e1 : (dig b n).length = (digits b n).length := iv_length _
    rw [e1] at hu hi
    have e2 := top_succ b (digits b n) hu hi
    have hul : u < b := la.get hu
    have S' := S.step (by omega) hul
    have hl : left < fg := by rw [S.r]; exact Nat.mod_lt _ (by omega)
    rw [← e2] at S'
    walk_at "s"
    refine x_I (Or.inr ⟨by omega, by omega⟩) ?_
    walk_at "s"
    rw [top_nat]
    refine x_I ⟨by omega, by omega⟩ ?_
    rw [nat_div_cast]
    walk_at "s"
    refine x_app (by walk_at "fact") (by rw [iv_length, S.len]; omega) ?_
    have T := T.mut 0 rfl (o' := .lst (iv acc ++ [V.int ((u + b * left) / fg : Nat)]))
    walk_at "s"
    refine x_I (by omega) ?_
    rw [nat_mod_cast]
    walk_at "s"
    refine ⟨_, _, _, _, rfl, S', ?_⟩
    rw [iv_snoc]
    exact T
  · rintro σ' H' ⟨acc, left, y, z, rfl, S, T⟩
    have e1 : (dig b n).length = (digits b n).length := iv_length _
    rw [e1, top_all, val_digits hb] at S
    walk_at "s"
    refine x_rev (by walk_at "fact") fun d2 hd => ?_
    have T := T.lay (o := .lst (iv acc).reverse) hd
    rw [show (iv acc).reverse = iv acc.reverse from (iv_reverse _).symm] at T ⊢
    walk_at "s"
    refine ⟨_, _, rfl, by walk_at "fact", by rw [List.length_reverse, S.len]; omega, t_retL T fun p H1 T => ?_⟩
    rw [S.done hb, S.r] at *
    walk_at "s"
    refine t_tup T (Nat.le_of_ble_eq_true rfl) fun t T => ?_
    exact q.go T (i := 0) (j := 1) (by decide) rfl rfl

/-! ### ladder -/
inductive Lad : Nat → Nat → List Nat → Nat → Prop
  | nil (n : Nat) : Lad n 0 [] n
  | cons {n m g : Nat} {qs : List Nat} : 0 < m → Lad m (n % m) qs g → Lad n m (n / m :: qs) g
theorem lad_total : ∀ k n m : Nat, m < 2 ^ k → ∃ qs g, Lad n m qs g ∧ qs.length ≤ 2 * k
  | 0, n, m, h => by
    have : m = 0 := by
      have : (2 : Nat) ^ 0 = 1 := rfl
      omega
    subst this
    exact ⟨[], n, .nil n, Nat.le_refl _⟩
  | k + 1, n, m, h => by
    rcases Nat.eq_zero_or_pos m with z | z
    · subst z
      exact ⟨[], n, .nil n, Nat.zero_le _⟩
    have hr := Nat.mod_lt n z
    generalize hrr : n % m = r at hr
    rcases Nat.eq_zero_or_pos r with y | y
    · refine ⟨[n / m], m, .cons z ?_, ?_⟩
      · rw [hrr, y]
        exact .nil m
      · show 1 ≤ _
        omega
    have hs := Nat.mod_lt m y
    have he := Nat.mod_add_div m r
    have hd : 1 ≤ m / r := Nat.div_pos (Nat.le_of_lt hr) y
    have hd2 : r * 1 ≤ r * (m / r) := Nat.mul_le_mul_left r hd
    have hp : 2 ^ (k + 1) = 2 ^ k * 2 := Nat.pow_succ 2 k
    obtain ⟨qs, g, hl, hq⟩ := lad_total k r (m % r) (by omega)
    refine ⟨n / m :: m / r :: qs, g, .cons z ?_, ?_⟩
    · rw [hrr]
      exact .cons y hl
    · show qs.length + 1 + 1 ≤ _
      omega
theorem lad_zero {n g : Nat} {qs : List Nat} (h : Lad n 0 qs g) : qs = [] ∧ g = n := by
  cases h with
  | nil => exact ⟨rfl, rfl⟩
  | cons h _ => exact absurd h (Nat.lt_irrefl _)
theorem lad_pos {n m g : Nat} {qs : List Nat} (hm : 0 < m) (h : Lad n m qs g) : ∃ qs', qs = n / m :: qs' ∧ Lad m (n % m) qs' g := by
  cases h with
  | nil => exact absurd hm (Nat.lt_irrefl _)
  | cons _ h => exact ⟨_, rfl, h⟩
theorem lad_cons {n m g q : Nat} {qs : List Nat} (h : Lad n m (q :: qs) g) : 0 < m ∧ q = n / m ∧ Lad m (n % m) qs g := by
  cases h with
  | cons h1 h => exact ⟨h1, rfl, h⟩
theorem lad_same : ∀ {qs : List Nat} {n m n' m' g : Nat}, Lad n m qs g → Lad n' m' qs g → n = n' ∧ m = m'
  | [], _, _, _, _, _, .nil _, h => by
    cases h
    exact ⟨rfl, rfl⟩
  | q :: qs, n, m, n', m', g, h, h' => by
    obtain ⟨z, e, h1⟩ := lad_cons h
    obtain ⟨z', e', h1'⟩ := lad_cons h'
    obtain ⟨e1, e2⟩ := lad_same h1 h1'
    subst e1
    refine ⟨?_, rfl⟩
    rw [← Nat.mod_add_div n m, ← Nat.mod_add_div n' m, ← e, ← e', e2]
theorem lad_drop : ∀ {qs : List Nat} {n m g : Nat}, Lad n m qs g → ∀ j, j ≤ qs.length → ∃ x y, Lad x y (qs.drop j) g ∧ x ≤ max n m ∧ y ≤ max n m
  | qs, n, m, g, h, 0, _ => ⟨n, m, h, by omega, by omega⟩
  | [], n, m, g, h, j + 1, hj => absurd hj (Nat.not_succ_le_zero _)
  | q :: qs, n, m, g, h, j + 1, hj => by
    obtain ⟨z, e, h1⟩ := lad_cons h
    obtain ⟨x, y, h2, hx, hy⟩ := lad_drop h1 j (Nat.le_of_succ_le_succ hj)
    have := Nat.mod_lt n z
    exact ⟨x, y, h2, by omega, by omega⟩
def refs (rs : List (Addr × Nat)) : List V := rs.map fun r => V.ref r.1
def lays (b : Nat) (rs : List (Addr × Nat)) : List (Addr × HO) := rs.map fun r => (r.1, HO.lst (dig b r.2))
def nums (rs : List (Addr × Nat)) : List Nat := rs.map fun r => r.2
theorem refs_snoc (rs : List (Addr × Nat)) (r : Addr × Nat) : refs (rs ++ [r]) = refs rs ++ [V.ref r.1] := by
  unfold refs
  rw [List.map_append]
  rfl
theorem lays_snoc (b : Nat) (rs : List (Addr × Nat)) (r : Addr × Nat) : lays b (rs ++ [r]) = lays b rs ++ [(r.1, HO.lst (dig b r.2))] := by
  unfold lays
  rw [List.map_append]
  rfl
theorem nums_snoc (rs : List (Addr × Nat)) (r : Addr × Nat) : nums (rs ++ [r]) = nums rs ++ [r.2] := by
  unfold nums
  rw [List.map_append]
  rfl
theorem refs_len (rs : List (Addr × Nat)) : (refs rs).length = rs.length := List.length_map _
theorem nums_len (rs : List (Addr × Nat)) : (nums rs).length = rs.length := List.length_map _
theorem perm4 {α : Type _} (p r lo d : α) (L : List α) : (p :: r :: lo :: d :: L).Perm (lo :: r :: d :: (L ++ [p])) := by
  have h1 : (L ++ [p]).Perm (p :: L) := List.perm_append_singleton _ _
  have h2 : (lo :: r :: d :: (L ++ [p])).Perm (lo :: r :: d :: p :: L) := ((h1.cons d).cons r).cons lo
  have h3 : (p :: r :: lo :: d :: L).Perm (lo :: r :: d :: p :: L) := ((List.Perm.swap lo r (d :: L)).cons p).trans ((List.Perm.swap lo p (r :: d :: L)).trans (((List.Perm.swap r p (d :: L)).cons lo).trans (((List.Perm.swap d p L).cons r).cons lo)))
  exact h3.trans h2.symm
def RetLad (b : Nat) (qs : List Nat) (g : Nat) (H : Hp) (Q : VK) : Prop := ∀ (t l h : Addr) (rs : List (Addr × Nat)) (H' : Hp), nums rs = qs → Trk H H' ((t, .tup [.ref l, .ref h]) :: (l, .lst (refs rs)) :: (h, .lst (dig b g)) :: lays b rs) → Q (.ref t) H'

/-! ### what is refused: the gates -/
def RaiseE (K : PySem.W.Frag) (E : XK) (c : Str) (H : Hp) : Prop := ∀ H', Same H H' → E (.ref (He.ga K c)) none H'
def RetAny (H : Hp) (Q : VK) : Prop := ∀ v H', Same H H' → Q v H'
def GateB (K : PySem.W.Frag) (H : Hp) (x : V) (E : XK) (P : Nat → Prop) : Prop := (∃ o, Kd H x o ∧ isB o = false ∧ RaiseE K E "NoBase" H) ∨ (∃ b : Nat, x = .int (b : Int) ∧ (2 ≤ b ∧ b ≤ 1000000) ∧ P b)
def GateR (K : PySem.W.Frag) (H : Hp) (b : Nat) (y : V) (E : XK) (P : Addr → Nat → Prop) : Prop := (RowK H b y false ∧ RaiseE K E "NoRow" H) ∨ (∃ (a : Addr) (n : Nat), y = .ref a ∧ H a = some (.lst (dig b n)) ∧ (digits b n).length ≤ 100 ∧ P a n)
def GateF (K : PySem.W.Frag) (H : Hp) (b : Nat) (z : V) (E : XK) (P : Nat → Prop) : Prop := (∃ o, Kd H z o ∧ figB b o = false ∧ RaiseE K E "NoFigure" H) ∨ (∃ f : Nat, z = .int (f : Int) ∧ f < b ∧ P f)
def cntB (l : Int) (o : Option Int) : Bool := match o with
  | some i => decide (l ≤ i)
  | none => false
def GateC (K : PySem.W.Frag) (H : Hp) (l : Int) (z : V) (E : XK) (P : Nat → Prop) : Prop := (∃ o, Kd H z o ∧ cntB l o = false ∧ RaiseE K E "NoCount" H) ∨ (∃ c : Nat, z = .int (c : Int) ∧ l ≤ (c : Int) ∧ c ≤ 1000 ∧ P c)
theorem RowK.mono {H H' : Hp} {b : Nat} {x : V} {r : Bool} (h : RowK H b x r) (s : Same H H') : RowK H' b x r := by
  rcases h with ⟨a, xs, ks, e, ha, hp, hl, hr⟩ | ⟨hn, hr⟩
  · exact .inl ⟨a, xs, ks, e, s _ _ ha, paired_mono s hp, hl, hr⟩
  · exact .inr ⟨hn.mono s, hr⟩
theorem figB_nat {b f : Nat} (h : f < b) : figB b (some (f : Int)) = true := by
  show (decide (0 ≤ (f : Int)) && decide ((f : Int) < (b : Int))) = true
  rw [decide_eq_true (by omega), decide_eq_true (by omega)]
  rfl
def spNeedBaseX (K : PySem.W.Frag) : Sp := fun vs H Q E => ∃ (x : V) (o : Option Int), vs = [x] ∧ Kd H x o ∧ (isB o = true → RetV .non H Q) ∧ (isB o = false → RaiseE K E "NoBase" H)
def spNeedRowX (K : PySem.W.Frag) : Sp := fun vs H Q E => ∃ (b : Nat) (y : V) (r : Bool), vs = [.int (b : Int), y] ∧ (2 ≤ b ∧ b ≤ 1000000) ∧ RowK H b y r ∧ (r = true → RetV .non H Q) ∧ (r = false → RaiseE K E "NoRow" H)
def spNeedFigureX (K : PySem.W.Frag) : Sp := fun vs H Q E => ∃ (b : Nat) (z : V) (o : Option Int), vs = [.int (b : Int), z] ∧ (2 ≤ b ∧ b ≤ 1000000) ∧ Kd H z o ∧ (figB b o = true → RetV .non H Q) ∧ (figB b o = false → RaiseE K E "NoFigure" H)
def spNeedCountX (K : PySem.W.Frag) : Sp := fun vs H Q E => ∃ (z : V) (l : Int) (o : Option Int), vs = [z, .int l] ∧ Kd H z o ∧ (cntB l o = true → RetV .non H Q) ∧ (cntB l o = false → RaiseE K E "NoCount" H)
section
variable {K : PySem.W.Frag} {H0 H : Hp} {L : List (Addr × HO)} {Q : VK} {E : XK} {x y z : V} {o : Option Int} {b n f : Nat} {a : Addr} {c : Str} {l : Int}
theorem RaiseE.mono (h : RaiseE K E c H0) (s : Same H0 H) : RaiseE K E c H := fun H' s' => h H' (s.trans s')
theorem nbBad (T : Trk H0 H L) (hk : Kd H0 x o) (e : isB o = false) (hE : RaiseE K E "NoBase" H0) : spNeedBaseX K [x] H Q E := ⟨x, o, rfl, hk.mono T.same, fun h => absurd (h.symm.trans e) (fun z => nomatch z), fun _ => hE.mono T.same⟩
theorem nbOk (hb : 2 ≤ b ∧ b ≤ 1000000) (k : RetV .non H Q) : spNeedBaseX K [.int (b : Int)] H Q E := ⟨_, some (b : Int), rfl, .int _, fun _ => k, fun h => absurd (h.symm.trans (isB_nat hb)) (fun z => nomatch z)⟩
theorem nrBad (T : Trk H0 H L) (hb : 2 ≤ b ∧ b ≤ 1000000) (hk : RowK H0 b y false) (hE : RaiseE K E "NoRow" H0) : spNeedRowX K [.int (b : Int), y] H Q E := ⟨b, y, false, rfl, hb, hk.mono T.same, (fun h => nomatch h), fun _ => hE.mono T.same⟩
theorem nrOk (hb : 2 ≤ b ∧ b ≤ 1000000) (ha : H a = some (.lst (dig b n))) (hl : (digits b n).length ≤ 100) (k : RetV .non H Q) : spNeedRowX K [.int (b : Int), .ref a] H Q E := ⟨b, _, true, rfl, hb, rowK_dig hb.1 ha (by omega), fun _ => k, fun h => nomatch h⟩
theorem nfBad (T : Trk H0 H L) (hb : 2 ≤ b ∧ b ≤ 1000000) (hk : Kd H0 z o) (e : figB b o = false) (hE : RaiseE K E "NoFigure" H0) : spNeedFigureX K [.int (b : Int), z] H Q E := ⟨b, z, o, rfl, hb, hk.mono T.same, fun h => absurd (h.symm.trans e) (fun z => nomatch z), fun _ => hE.mono T.same⟩
theorem nfOk (hb : 2 ≤ b ∧ b ≤ 1000000) (hf : f < b) (k : RetV .non H Q) : spNeedFigureX K [.int (b : Int), .int (f : Int)] H Q E := ⟨b, _, some (f : Int), rfl, hb, .int _, fun _ => k, fun h => absurd (h.symm.trans (figB_nat hf)) (fun z => nomatch z)⟩
theorem ncBad (T : Trk H0 H L) (hk : Kd H0 z o) (e : cntB l o = false) (hE : RaiseE K E "NoCount" H0) : spNeedCountX K [z, .int l] H Q E := ⟨z, l, o, rfl, hk.mono T.same, fun h => absurd (h.symm.trans e) (fun z => nomatch z), fun _ => hE.mono T.same⟩
theorem ncOk (hf : l ≤ (f : Int)) (k : RetV .non H Q) : spNeedCountX K [.int (f : Int), .int l] H Q E := ⟨_, l, some (f : Int), rfl, .int _, fun _ => k, fun h => absurd (h.symm.trans (show cntB l (some (f : Int)) = true from decide_eq_true hf)) (fun z => nomatch z)⟩
end
theorem ok_need_base_X {P : Program} {w : World} {K : PySem.W.Frag} {mg : Str → Option Value} {base : Heap} (D : Dfn K mg "need_base" s_need_base) (X_NoBase : Exc1 K mg "NoBase") (C_is_base : Cal P w K mg base CX0 "is_base" 2 ["base"] spIsBase) : Cal P w K mg base (L2.CX P w) "need_base" 3 ["base"] (spNeedBaseX K) := by
  refine calX D sc_need_base (fun _ _ _ _ _ _ us hl => match us, hl with | [_], _ => rfl) (fun vs H Q E h => ?_) (fun f cdv A outer s H vs Q E hr h => ?_)
  · obtain ⟨x, o, rfl, _⟩ := h
    rfl
  obtain ⟨x, o, rfl, hk, q1, q2⟩ := h
  refine ⟨_, (pss_one (ps_if (pt_not (pt_val (pc C_is_base hr (pa_cons (pv 0) pa_nil)))) (pss_one (raise1 X_NoBase rfl (takes_of rfl rfl rfl rfl) rfl)) pss_nil)), ?_⟩
  show tIfS _ _ _ _ [some x] H
  walk_at "s"
  refine ⟨_, o, rfl, hk, fun H1 s1 => ?_⟩
  cases e : isB o with
  | true =>
    walk_at "s"
    exact q1 e _ s1
  | false =>
    walk_at "s"
    exact q2 e _ s1
theorem ok_need_row_X {P : Program} {w : World} {K : PySem.W.Frag} {mg : Str → Option Value} {base : Heap} (D : Dfn K mg "need_row" s_need_row) (X_NoRow : Exc1 K mg "NoRow") (C_is_row : Cal P w K mg base CX0 "is_row" 5 ["base", "row"] spIsRow) : Cal P w K mg base (L2.CX P w) "need_row" 6 ["base", "row"] (spNeedRowX K) := by
  refine calX D sc_need_row (fun _ _ _ _ _ _ us hl => match us, hl with | [_, _], _ => rfl) (fun vs H Q E h => ?_) (fun f cdv A outer s H vs Q E hr h => ?_)
  · obtain ⟨b, y, r, rfl, _⟩ := h
    rfl
  obtain ⟨b, y, r, rfl, hb, hk, q1, q2⟩ := h
  refine ⟨_, (pss_one (ps_if (pt_not (pt_val (pc C_is_row hr (pa_cons (pv 0) (pa_cons (pv 1) pa_nil))))) (pss_one (raise1 X_NoRow rfl (takes_of rfl rfl rfl rfl) rfl)) pss_nil)), ?_⟩
  show tIfS _ _ _ _ [some (.int (b : Int)), some y] H
  walk_at "s"
  refine ⟨_, _, r, rfl, hb, hk, fun H1 s1 => ?_⟩
  cases r with
  | true =>
    walk_at "s"
    exact q1 rfl _ s1
  | false =>
    walk_at "s"
    exact q2 rfl _ s1
abbrev s_need_figure : Stmt := topS 17
theorem sc_need_figure : FnScope ["base", "figure"] ["base", "figure"] (defScope s_need_figure) := ⟨rfl, rfl, rfl, by decide +kernel, rfl, by decide +kernel, by decide +kernel⟩
theorem ok_need_figure_X {P : Program} {w : World} {K : PySem.W.Frag} {mg : Str → Option Value} {base : Heap} (D : Dfn K mg "need_figure" s_need_figure) (X_NoFigure : Exc1 K mg "NoFigure") (C_is_figure : Cal P w K mg base CX0 "is_figure" 4 ["base", "figure"] spIsFigure) : Cal P w K mg base (L2.CX P w) "need_figure" 5 ["base", "figure"] (spNeedFigureX K) := by
  refine calX D sc_need_figure (fun _ _ _ _ _ _ us hl => match us, hl with | [_, _], _ => rfl) (fun vs H Q E h => ?_) (fun f cdv A outer s H vs Q E hr h => ?_)
  · obtain ⟨b, y, r, rfl, _⟩ := h
    rfl
  obtain ⟨b, y, o, rfl, hb, hk, q1, q2⟩ := h
  refine ⟨_, (pss_one (ps_if (pt_not (pt_val (pc C_is_figure hr (pa_cons (pv 0) (pa_cons (pv 1) pa_nil))))) (pss_one (raise1 X_NoFigure rfl (takes_of rfl rfl rfl rfl) rfl)) pss_nil)), ?_⟩
  show tIfS _ _ _ _ [some (.int (b : Int)), some y] H
  walk_at "s"
  refine ⟨_, _, o, rfl, hb, hk, fun H1 s1 => ?_⟩
  cases e : figB b o with
  | true =>
    walk_at "s"
    exact q1 e _ s1
  | false =>
    walk_at "s"
    exact q2 e _ s1
abbrev s_need_count : Stmt := topS 18
theorem sc_need_count : FnScope ["count", "least"] ["count", "least"] (defScope s_need_count) := ⟨rfl, rfl, rfl, by decide +kernel, rfl, by decide +kernel, by decide +kernel⟩
theorem ok_need_count_X {P : Program} {w : World} {K : PySem.W.Frag} {mg : Str → Option Value} {base : Heap} (D : Dfn K mg "need_count" s_need_count) (X_NoCount : Exc1 K mg "NoCount") (C_is_whole : Cal P w K mg base CX0 "is_whole" 1 ["thing"] spIsWhole) : Cal P w K mg base (L2.CX P w) "need_count" 2 ["count", "least"] (spNeedCountX K) := by
  refine calX D sc_need_count (fun _ _ _ _ _ _ us hl => match us, hl with | [_, _], _ => rfl) (fun vs H Q E h => ?_) (fun f cdv A outer s H vs Q E hr h => ?_)
  · obtain ⟨z, l, o, rfl, _⟩ := h
    rfl
  obtain ⟨z, l, o, rfl, hk, q1, q2⟩ := h
  refine ⟨_, (pss_one (ps_if (PW.pt (pw_or (pt_not (pt_val (pc C_is_whole hr (pa_cons (pv 0) pa_nil)))) (pw_or1 (pt_cmpR op_lt (pv 0) (pv 1) (nomark _))))) (pss_one (raise1 X_NoCount rfl (takes_of rfl rfl rfl rfl) rfl)) pss_nil)), ?_⟩
  show tIfS _ _ _ _ [some z, some (.int l)] H
  walk_at "s"
  refine ⟨_, o, rfl, hk, fun H1 s1 => ?_⟩
  cases o with
  | none =>
    walk_at "s"
    refine ifT rfl ?_
    walk_at "s"
    exact q2 rfl _ s1
  | some i =>
    cases hk.some_int
    walk_at "s"
    refine ifF rfl ?_
    walk_at "s"
    refine if2 (fun h1 => ?_) (fun h1 => ?_)
    · have h2 : i < l := of_decide_eq_true h1
      walk_at "s"
      exact q2 (decide_eq_false (by omega)) _ s1
    · have h2 : ¬ i < l := of_decide_eq_false h1
      walk_at "s"
      exact q1 (decide_eq_true (by omega)) _ s1
/-! ### added, all that is handed in -/
abbrev s_added : Stmt := topS 26
theorem sc_added : FnScope ["base", "one", "other"] ["base", "one", "other"] (defScope s_added) := ⟨rfl, rfl, rfl, by decide +kernel, rfl, by decide +kernel, by decide +kernel⟩
def spAddedE (K : PySem.W.Frag) : Sp := fun vs H Q E => ∃ (x y z : V), vs = [x, y, z] ∧ GateB K H x E fun b => GateR K H b y E fun a n => GateR K H b z E fun a2 n2 => RetAny H Q
theorem ok_added_X {P : Program} {w : World} {K : PySem.W.Frag} {mg : Str → Option Value} {base : Heap} (D : Dfn K mg "added" s_added) (CX_need_base : Cal P w K mg base (L2.CX P w) "need_base" 3 ["base"] (spNeedBaseX K)) (CX_need_row : Cal P w K mg base (L2.CX P w) "need_row" 6 ["base", "row"] (spNeedRowX K)) (C_summed : Cal P w K mg base CX0 "summed" 2 ["base", "one", "other"] spSummed) : Cal P w K mg base (L2.CX P w) "added" 7 (["base", "one", "other"]) (spAddedE K) := by
  refine calX D sc_added (fun _ _ _ _ _ _ us hl => match us, hl with | [_, _, _], _ => rfl) (fun vs H Q E h => ?_) (fun f cdv A outer s H vs Q E hr h => ?_)
  · obtain ⟨x, y, z, rfl, _⟩ := h
    rfl
  obtain ⟨x, y, z, rfl, hg⟩ := h
  refine ⟨_, (pss_cons (ps_expr (pcE CX_need_base hr (takes_of rfl rfl rfl rfl) (pa_cons (pv 0) pa_nil)))
      (pss_cons (ps_expr (pcE CX_need_row hr (takes_of rfl rfl rfl rfl) (pa_cons (pv 0) (pa_cons (pv 1) pa_nil))))
      (pss_cons (ps_expr (pcE CX_need_row hr (takes_of rfl rfl rfl rfl) (pa_cons (pv 0) (pa_cons (pv 2) pa_nil))))
      (pss_one (ps_ret (pc C_summed hr (pa_cons (pv 0) (pa_cons (pv 1) (pa_cons (pv 2) pa_nil))))))))), ?_⟩
  show tSeq _ _ _ (L2.start (["base", "one", "other"]) [x, y, z]) H
  have T := Trk.nil H
  show tSeq _ _ _ [some x, some y, some z] H
  rcases hg with ⟨o, hk, e, hE⟩ | ⟨b, rfl, hb, hg⟩
  · walk_at "s"
    exact nbBad T hk e hE
  walk_at "s"
  refine nbOk hb (t_retV T fun _ T => ?_)
  rcases hg with ⟨hk, hE⟩ | ⟨a, n, rfl, ha, hn, hg⟩
  · walk_at "s"
    exact nrBad T hb hk hE
  walk_at "s"
  refine nrOk hb (T.up ha) hn (t_retV T fun _ T => ?_)
  rcases hg with ⟨hk, hE⟩ | ⟨a2, n2, rfl, ha2, hn2, hg⟩
  · walk_at "s"
    exact nrBad T hb hk hE
  walk_at "s"
  refine nrOk hb (T.up ha2) hn2 (t_retV T fun _ T => ?_)
  have q := hg
  walk_at "s"
  refine ⟨_, _, _, _, _, rfl, hb, T.up ha, T.up ha2, by omega, by omega, t_retL T fun p H5 T => ?_⟩
  exact q _ _ T.same
/-! ### taken, all that is handed in -/
abbrev s_taken : Stmt := topS 28
theorem sc_taken : FnScope ["base", "one", "other"] ["base", "one", "other"] (defScope s_taken) := ⟨rfl, rfl, rfl, by decide +kernel, rfl, by decide +kernel, by decide +kernel⟩
def spTakenE (K : PySem.W.Frag) : Sp := fun vs H Q E => ∃ (x y z : V), vs = [x, y, z] ∧ GateB K H x E fun b => GateR K H b y E fun a n => GateR K H b z E fun a2 n2 => ((n2 ≤ n ∧ RetAny H Q) ∨ (n < n2 ∧ RaiseE K E "BelowNought" H))
theorem ok_taken_X {P : Program} {w : World} {K : PySem.W.Frag} {mg : Str → Option Value} {base : Heap} (D : Dfn K mg "taken" s_taken) (CX_need_base : Cal P w K mg base (L2.CX P w) "need_base" 3 ["base"] (spNeedBaseX K)) (CX_need_row : Cal P w K mg base (L2.CX P w) "need_row" 6 ["base", "row"] (spNeedRowX K)) (X_BelowNought : Exc1 K mg "BelowNought") (C_order : Cal P w K mg base CX0 "order" 1 ["one", "other"] spOrder) (C_less_by : Cal P w K mg base CX0 "less_by" 2 ["base", "one", "other"] spLessBy) : Cal P w K mg base (L2.CX P w) "taken" 7 (["base", "one", "other"]) (spTakenE K) := by
  refine calX D sc_taken (fun _ _ _ _ _ _ us hl => match us, hl with | [_, _, _], _ => rfl) (fun vs H Q E h => ?_) (fun f cdv A outer s H vs Q E hr h => ?_)
  · obtain ⟨x, y, z, rfl, _⟩ := h
    rfl
  obtain ⟨x, y, z, rfl, hg⟩ := h
  refine ⟨_, (pss_cons (ps_expr (pcE CX_need_base hr (takes_of rfl rfl rfl rfl) (pa_cons (pv 0) pa_nil)))
      (pss_cons (ps_expr (pcE CX_need_row hr (takes_of rfl rfl rfl rfl) (pa_cons (pv 0) (pa_cons (pv 1) pa_nil))))
      (pss_cons (ps_expr (pcE CX_need_row hr (takes_of rfl rfl rfl rfl) (pa_cons (pv 0) (pa_cons (pv 2) pa_nil))))
      (pss_cons (ps_if (pt_cmpR op_lt (pc C_order hr (pa_cons (pv 1) (pa_cons (pv 2) pa_nil))) pe_int (nomark _)) (pss_one (raise1 X_BelowNought rfl (takes_of rfl rfl rfl rfl) rfl)) pss_nil)
      (pss_one (ps_ret (pc C_less_by hr (pa_cons (pv 0) (pa_cons (pv 1) (pa_cons (pv 2) pa_nil)))))))))), ?_⟩
  show tSeq _ _ _ (L2.start (["base", "one", "other"]) [x, y, z]) H
  have T := Trk.nil H
  show tSeq _ _ _ [some x, some y, some z] H
  rcases hg with ⟨o, hk, e, hE⟩ | ⟨b, rfl, hb, hg⟩
  · walk_at "s"
    exact nbBad T hk e hE
  walk_at "s"
  refine nbOk hb (t_retV T fun _ T => ?_)
  rcases hg with ⟨hk, hE⟩ | ⟨a, n, rfl, ha, hn, hg⟩
  · walk_at "s"
    exact nrBad T hb hk hE
  walk_at "s"
  refine nrOk hb (T.up ha) hn (t_retV T fun _ T => ?_)
  rcases hg with ⟨hk, hE⟩ | ⟨a2, n2, rfl, ha2, hn2, hg⟩
  · walk_at "s"
    exact nrBad T hb hk hE
  walk_at "s"
  refine nrOk hb (T.up ha2) hn2 (t_retV T fun _ T => ?_)
  have q := hg
  walk_at "s"
  refine ⟨_, _, _, _, _, rfl, hb.1, T.up ha, T.up ha2, by omega, by omega, t_retV T fun H4 T => ?_⟩
  walk_at "s"
  rcases q with ⟨hm, q⟩ | ⟨hm, q⟩
  · refine ifF (decide_eq_false (by unfold cmpI; rw [if_neg (by omega)]; split <;> omega)) ?_
    walk_at "s"
    refine ⟨_, _, _, _, _, rfl, hb, T.up ha, T.up ha2, by omega, hm, t_retL T fun p H5 T => ?_⟩
    exact q _ _ T.same
  · refine ifT (decide_eq_true (by unfold cmpI; rw [if_pos hm]; decide)) ?_
    walk_at "s"
    exact q _ T.same
/-! ### scaled, all that is handed in -/
abbrev s_scaled : Stmt := topS 30
theorem sc_scaled : FnScope ["base", "row", "figure"] ["base", "row", "figure"] (defScope s_scaled) := ⟨rfl, rfl, rfl, by decide +kernel, rfl, by decide +kernel, by decide +kernel⟩
def spScaledE (K : PySem.W.Frag) : Sp := fun vs H Q E => ∃ (x y z : V), vs = [x, y, z] ∧ GateB K H x E fun b => GateR K H b y E fun a n => GateF K H b z E fun f => RetAny H Q
theorem ok_scaled_X {P : Program} {w : World} {K : PySem.W.Frag} {mg : Str → Option Value} {base : Heap} (D : Dfn K mg "scaled" s_scaled) (CX_need_base : Cal P w K mg base (L2.CX P w) "need_base" 3 ["base"] (spNeedBaseX K)) (CX_need_row : Cal P w K mg base (L2.CX P w) "need_row" 6 ["base", "row"] (spNeedRowX K)) (CX_need_figure : Cal P w K mg base (L2.CX P w) "need_figure" 5 ["base", "figure"] (spNeedFigureX K)) (C_times : Cal P w K mg base CX0 "times" 2 ["base", "row", "figure"] spTimes) : Cal P w K mg base (L2.CX P w) "scaled" 7 (["base", "row", "figure"]) (spScaledE K) := by
  refine calX D sc_scaled (fun _ _ _ _ _ _ us hl => match us, hl with | [_, _, _], _ => rfl) (fun vs H Q E h => ?_) (fun f cdv A outer s H vs Q E hr h => ?_)
  · obtain ⟨x, y, z, rfl, _⟩ := h
    rfl
  obtain ⟨x, y, z, rfl, hg⟩ := h
  refine ⟨_, (pss_cons (ps_expr (pcE CX_need_base hr (takes_of rfl rfl rfl rfl) (pa_cons (pv 0) pa_nil)))
      (pss_cons (ps_expr (pcE CX_need_row hr (takes_of rfl rfl rfl rfl) (pa_cons (pv 0) (pa_cons (pv 1) pa_nil))))
      (pss_cons (ps_expr (pcE CX_need_figure hr (takes_of rfl rfl rfl rfl) (pa_cons (pv 0) (pa_cons (pv 2) pa_nil))))
      (pss_one (ps_ret (pc C_times hr (pa_cons (pv 0) (pa_cons (pv 1) (pa_cons (pv 2) pa_nil))))))))), ?_⟩
  show tSeq _ _ _ (L2.start (["base", "row", "figure"]) [x, y, z]) H
  have T := Trk.nil H
  show tSeq _ _ _ [some x, some y, some z] H
  rcases hg with ⟨o, hk, e, hE⟩ | ⟨b, rfl, hb, hg⟩
  · walk_at "s"
    exact nbBad T hk e hE
  walk_at "s"
  refine nbOk hb (t_retV T fun _ T => ?_)
  rcases hg with ⟨hk, hE⟩ | ⟨a, n, rfl, ha, hn, hg⟩
  · walk_at "s"
    exact nrBad T hb hk hE
  walk_at "s"
  refine nrOk hb (T.up ha) hn (t_retV T fun _ T => ?_)
  rcases hg with ⟨o, hk, e, hE⟩ | ⟨f, rfl, hf, hg⟩
  · walk_at "s"
    exact nfBad T hb hk e hE
  walk_at "s"
  refine nfOk hb hf (t_retV T fun _ T => ?_)
  have q := hg
  walk_at "s"
  refine ⟨_, _, _, _, rfl, hb, T.up ha, hf, by omega, t_retL T fun p H5 T => ?_⟩
  exact q _ _ T.same
/-! ### shifted, all that is handed in -/
abbrev s_shifted : Stmt := topS 32
theorem sc_shifted : FnScope ["base", "row", "places"] ["base", "row", "places"] (defScope s_shifted) := ⟨rfl, rfl, rfl, by decide +kernel, rfl, by decide +kernel, by decide +kernel⟩
def spShiftedE (K : PySem.W.Frag) : Sp := fun vs H Q E => ∃ (x y z : V), vs = [x, y, z] ∧ GateB K H x E fun b => GateR K H b y E fun a n => GateC K H 0 z E fun c => RetAny H Q
theorem ok_shifted_X {P : Program} {w : World} {K : PySem.W.Frag} {mg : Str → Option Value} {base : Heap} (D : Dfn K mg "shifted" s_shifted) (CX_need_base : Cal P w K mg base (L2.CX P w) "need_base" 3 ["base"] (spNeedBaseX K)) (CX_need_row : Cal P w K mg base (L2.CX P w) "need_row" 6 ["base", "row"] (spNeedRowX K)) (CX_need_count : Cal P w K mg base (L2.CX P w) "need_count" 2 ["count", "least"] (spNeedCountX K)) (C_moved_up : Cal P w K mg base CX0 "moved_up" 1 ["row", "places"] spMovedUp) : Cal P w K mg base (L2.CX P w) "shifted" 7 (["base", "row", "places"]) (spShiftedE K) := by
  refine calX D sc_shifted (fun _ _ _ _ _ _ us hl => match us, hl with | [_, _, _], _ => rfl) (fun vs H Q E h => ?_) (fun f cdv A outer s H vs Q E hr h => ?_)
  · obtain ⟨x, y, z, rfl, _⟩ := h
    rfl
  obtain ⟨x, y, z, rfl, hg⟩ := h
  refine ⟨_, (pss_cons (ps_expr (pcE CX_need_base hr (takes_of rfl rfl rfl rfl) (pa_cons (pv 0) pa_nil)))
      (pss_cons (ps_expr (pcE CX_need_row hr (takes_of rfl rfl rfl rfl) (pa_cons (pv 0) (pa_cons (pv 1) pa_nil))))
      (pss_cons (ps_expr (pcE CX_need_count hr (takes_of rfl rfl rfl rfl) (pa_cons (pv 2) (pa_cons pe_int pa_nil))))
      (pss_one (ps_ret (pc C_moved_up hr (pa_cons (pv 1) (pa_cons (pv 2) pa_nil)))))))), ?_⟩
  show tSeq _ _ _ (L2.start (["base", "row", "places"]) [x, y, z]) H
  have T := Trk.nil H
  show tSeq _ _ _ [some x, some y, some z] H
  rcases hg with ⟨o, hk, e, hE⟩ | ⟨b, rfl, hb, hg⟩
  · walk_at "s"
    exact nbBad T hk e hE
  walk_at "s"
  refine nbOk hb (t_retV T fun _ T => ?_)
  rcases hg with ⟨hk, hE⟩ | ⟨a, n, rfl, ha, hn, hg⟩
  · walk_at "s"
    exact nrBad T hb hk hE
  walk_at "s"
  refine nrOk hb (T.up ha) hn (t_retV T fun _ T => ?_)
  rcases hg with ⟨o, hk, e, hE⟩ | ⟨c, rfl, hc, hc1, hg⟩
  · walk_at "s"
    exact ncBad T hk e hE
  walk_at "s"
  refine ncOk hc (t_retV T fun _ T => ?_)
  have q := hg
  walk_at "s"
  refine ⟨_, _, _, _, rfl, hb.1, T.up ha, by omega, by omega, t_retL T fun p H5 T => ?_⟩
  exact q _ _ T.same
/-! ### slow, all that is handed in -/
abbrev s_slow : Stmt := topS 45
theorem sc_slow : FnScope ["base", "one", "other"] ["base", "one", "other"] (defScope s_slow) := ⟨rfl, rfl, rfl, by decide +kernel, rfl, by decide +kernel, by decide +kernel⟩
def spSlowE (K : PySem.W.Frag) : Sp := fun vs H Q E => ∃ (x y z : V), vs = [x, y, z] ∧ GateB K H x E fun b => GateR K H b y E fun a n => GateR K H b z E fun a2 n2 => RetAny H Q
theorem ok_slow_X {P : Program} {w : World} {K : PySem.W.Frag} {mg : Str → Option Value} {base : Heap} (D : Dfn K mg "slow" s_slow) (CX_need_base : Cal P w K mg base (L2.CX P w) "need_base" 3 ["base"] (spNeedBaseX K)) (CX_need_row : Cal P w K mg base (L2.CX P w) "need_row" 6 ["base", "row"] (spNeedRowX K)) (C_slowly : Cal P w K mg base CX0 "slowly" 3 ["base", "one", "other"] spSlowly) : Cal P w K mg base (L2.CX P w) "slow" 7 (["base", "one", "other"]) (spSlowE K) := by
  refine calX D sc_slow (fun _ _ _ _ _ _ us hl => match us, hl with | [_, _, _], _ => rfl) (fun vs H Q E h => ?_) (fun f cdv A outer s H vs Q E hr h => ?_)
  · obtain ⟨x, y, z, rfl, _⟩ := h
    rfl
  obtain ⟨x, y, z, rfl, hg⟩ := h
  refine ⟨_, (pss_cons (ps_expr (pcE CX_need_base hr (takes_of rfl rfl rfl rfl) (pa_cons (pv 0) pa_nil)))
      (pss_cons (ps_expr (pcE CX_need_row hr (takes_of rfl rfl rfl rfl) (pa_cons (pv 0) (pa_cons (pv 1) pa_nil))))
      (pss_cons (ps_expr (pcE CX_need_row hr (takes_of rfl rfl rfl rfl) (pa_cons (pv 0) (pa_cons (pv 2) pa_nil))))
      (pss_one (ps_ret (pc C_slowly hr (pa_cons (pv 0) (pa_cons (pv 1) (pa_cons (pv 2) pa_nil))))))))), ?_⟩
  show tSeq _ _ _ (L2.start (["base", "one", "other"]) [x, y, z]) H
  have T := Trk.nil H
  show tSeq _ _ _ [some x, some y, some z] H
  rcases hg with ⟨o, hk, e, hE⟩ | ⟨b, rfl, hb, hg⟩
  · walk_at "s"
    exact nbBad T hk e hE
  walk_at "s"
  refine nbOk hb (t_retV T fun _ T => ?_)
  rcases hg with ⟨hk, hE⟩ | ⟨a, n, rfl, ha, hn, hg⟩
  · walk_at "s"
    exact nrBad T hb hk hE
  walk_at "s"
  refine nrOk hb (T.up ha) hn (t_retV T fun _ T => ?_)
  rcases hg with ⟨hk, hE⟩ | ⟨a2, n2, rfl, ha2, hn2, hg⟩
  · walk_at "s"
    exact nrBad T hb hk hE
  walk_at "s"
  refine nrOk hb (T.up ha2) hn2 (t_retV T fun _ T => ?_)
  have q := hg
  walk_at "s"
  refine ⟨_, _, _, _, _, rfl, hb, T.up ha, T.up ha2, by omega, by omega, t_retL T fun p H5 T => ?_⟩
  exact q _ _ T.same
/-! ### parted, all that is handed in -/
abbrev s_parted : Stmt := topS 35
theorem sc_parted : FnScope ["base", "row", "figure"] ["base", "row", "figure"] (defScope s_parted) := ⟨rfl, rfl, rfl, by decide +kernel, rfl, by decide +kernel, by decide +kernel⟩
def spPartedE (K : PySem.W.Frag) : Sp := fun vs H Q E => ∃ (x y z : V), vs = [x, y, z] ∧ GateB K H x E fun b => GateR K H b y E fun a n => GateF K H b z E fun f => ((0 < f ∧ RetAny H Q) ∨ (f = 0 ∧ RaiseE K E "ByNought" H))
theorem ok_parted_X {P : Program} {w : World} {K : PySem.W.Frag} {mg : Str → Option Value} {base : Heap} (D : Dfn K mg "parted" s_parted) (CX_need_base : Cal P w K mg base (L2.CX P w) "need_base" 3 ["base"] (spNeedBaseX K)) (CX_need_row : Cal P w K mg base (L2.CX P w) "need_row" 6 ["base", "row"] (spNeedRowX K)) (CX_need_figure : Cal P w K mg base (L2.CX P w) "need_figure" 5 ["base", "figure"] (spNeedFigureX K)) (X_ByNought : Exc1 K mg "ByNought") (C_parts_of : Cal P w K mg base CX0 "parts_of" 2 ["base", "row", "figure"] spPartsOf) : Cal P w K mg base (L2.CX P w) "parted" 7 (["base", "row", "figure"]) (spPartedE K) := by
  refine calX D sc_parted (fun _ _ _ _ _ _ us hl => match us, hl with | [_, _, _], _ => rfl) (fun vs H Q E h => ?_) (fun f cdv A outer s H vs Q E hr h => ?_)
  · obtain ⟨x, y, z, rfl, _⟩ := h
    rfl
  obtain ⟨x, y, z, rfl, hg⟩ := h
  refine ⟨_, (pss_cons (ps_expr (pcE CX_need_base hr (takes_of rfl rfl rfl rfl) (pa_cons (pv 0) pa_nil)))
      (pss_cons (ps_expr (pcE CX_need_row hr (takes_of rfl rfl rfl rfl) (pa_cons (pv 0) (pa_cons (pv 1) pa_nil))))
      (pss_cons (ps_expr (pcE CX_need_figure hr (takes_of rfl rfl rfl rfl) (pa_cons (pv 0) (pa_cons (pv 2) pa_nil))))
      (pss_cons (ps_if (pt_cmpR op_eq (pv 2) pe_int (nomark _)) (pss_one (raise1 X_ByNought rfl (takes_of rfl rfl rfl rfl) rfl)) pss_nil)
      (pss_one (ps_ret (pc C_parts_of hr (pa_cons (pv 0) (pa_cons (pv 1) (pa_cons (pv 2) pa_nil)))))))))), ?_⟩
  show tSeq _ _ _ (L2.start (["base", "row", "figure"]) [x, y, z]) H
  have T := Trk.nil H
  show tSeq _ _ _ [some x, some y, some z] H
  rcases hg with ⟨o, hk, e, hE⟩ | ⟨b, rfl, hb, hg⟩
  · walk_at "s"
    exact nbBad T hk e hE
  walk_at "s"
  refine nbOk hb (t_retV T fun _ T => ?_)
  rcases hg with ⟨hk, hE⟩ | ⟨a, n, rfl, ha, hn, hg⟩
  · walk_at "s"
    exact nrBad T hb hk hE
  walk_at "s"
  refine nrOk hb (T.up ha) hn (t_retV T fun _ T => ?_)
  rcases hg with ⟨o, hk, e, hE⟩ | ⟨f, rfl, hf, hg⟩
  · walk_at "s"
    exact nfBad T hb hk e hE
  walk_at "s"
  refine nfOk hb hf (t_retV T fun _ T => ?_)
  have q := hg
  walk_at "s"
  rcases q with ⟨hm, q⟩ | ⟨hm, q⟩
  · refine ifF (decide_eq_false (by omega)) ?_
    walk_at "s"
    refine ⟨_, _, _, _, rfl, hb, T.up ha, by omega, by omega, t_retP T fun t p H4 T => ?_⟩
    exact q _ _ T.same
  · refine ifT (decide_eq_true (by omega)) ?_
    walk_at "s"
    exact q _ T.same
/-! ### divided, all that is handed in -/
abbrev s_divided : Stmt := topS 39
theorem sc_divided : FnScope ["base", "one", "other"] ["base", "one", "other"] (defScope s_divided) := ⟨rfl, rfl, rfl, by decide +kernel, rfl, by decide +kernel, by decide +kernel⟩
def spDividedE (K : PySem.W.Frag) : Sp := fun vs H Q E => ∃ (x y z : V), vs = [x, y, z] ∧ GateB K H x E fun b => GateR K H b y E fun a n => GateR K H b z E fun a2 n2 => ((0 < n2 ∧ RetAny H Q) ∨ (n2 = 0 ∧ RaiseE K E "ByNought" H))
theorem ok_divided_X {P : Program} {w : World} {K : PySem.W.Frag} {mg : Str → Option Value} {base : Heap} (D : Dfn K mg "divided" s_divided) (CX_need_base : Cal P w K mg base (L2.CX P w) "need_base" 3 ["base"] (spNeedBaseX K)) (CX_need_row : Cal P w K mg base (L2.CX P w) "need_row" 6 ["base", "row"] (spNeedRowX K)) (X_ByNought : Exc1 K mg "ByNought") (C_shares : Cal P w K mg base CX0 "shares" 4 ["base", "one", "other"] spShares) : Cal P w K mg base (L2.CX P w) "divided" 7 (["base", "one", "other"]) (spDividedE K) := by
  refine calX D sc_divided (fun _ _ _ _ _ _ us hl => match us, hl with | [_, _, _], _ => rfl) (fun vs H Q E h => ?_) (fun f cdv A outer s H vs Q E hr h => ?_)
  · obtain ⟨x, y, z, rfl, _⟩ := h
    rfl
  obtain ⟨x, y, z, rfl, hg⟩ := h
  refine ⟨_, (pss_cons (ps_expr (pcE CX_need_base hr (takes_of rfl rfl rfl rfl) (pa_cons (pv 0) pa_nil)))
      (pss_cons (ps_expr (pcE CX_need_row hr (takes_of rfl rfl rfl rfl) (pa_cons (pv 0) (pa_cons (pv 1) pa_nil))))
      (pss_cons (ps_expr (pcE CX_need_row hr (takes_of rfl rfl rfl rfl) (pa_cons (pv 0) (pa_cons (pv 2) pa_nil))))
      (pss_cons (ps_if (pt_cmpR (op_eqD hr.units) (pv 2) (pe_lst pa_nil) (nomark _)) (pss_one (raise1 X_ByNought rfl (takes_of rfl rfl rfl rfl) rfl)) pss_nil)
      (pss_one (ps_ret (pc C_shares hr (pa_cons (pv 0) (pa_cons (pv 1) (pa_cons (pv 2) pa_nil)))))))))), ?_⟩
  show tSeq _ _ _ (L2.start (["base", "one", "other"]) [x, y, z]) H
  have T := Trk.nil H
  show tSeq _ _ _ [some x, some y, some z] H
  rcases hg with ⟨o, hk, e, hE⟩ | ⟨b, rfl, hb, hg⟩
  · walk_at "s"
    exact nbBad T hk e hE
  walk_at "s"
  refine nbOk hb (t_retV T fun _ T => ?_)
  rcases hg with ⟨hk, hE⟩ | ⟨a, n, rfl, ha, hn, hg⟩
  · walk_at "s"
    exact nrBad T hb hk hE
  walk_at "s"
  refine nrOk hb (T.up ha) hn (t_retV T fun _ T => ?_)
  rcases hg with ⟨hk, hE⟩ | ⟨a2, n2, rfl, ha2, hn2, hg⟩
  · walk_at "s"
    exact nrBad T hb hk hE
  walk_at "s"
  refine nrOk hb (T.up ha2) hn2 (t_retV T fun _ T => ?_)
  have q := hg
  walk_at "s"
  refine t_new T (Nat.le_of_ble_eq_true rfl) fun d T => ?_
  walk_at "s"
  refine x_eqL (l := digits b n2) (m := []) (T.up ha2) (by walk_at "fact") ?_
  walk_at "s"
  rcases q with ⟨hm, q⟩ | ⟨hm, q⟩
  · rw [decide_eq_false (fun z => by rw [digits_nil hb.1] at z; omega)]
    walk_at "s"
    refine ⟨_, _, _, _, _, rfl, hb, T.up ha, T.up ha2, hm, by omega, by omega, t_retPP T fun t p p2 H4 T => ?_⟩
    exact q _ _ T.same
  · rw [decide_eq_true ((digits_nil hb.1).mpr hm)]
    walk_at "s"
    exact q _ T.same
/-! ### number_of, all that is handed in -/
abbrev s_number_of : Stmt := topS 21
theorem sc_number_of : FnScope ["base", "row", "total", "figure"] ["base", "row"] (defScope s_number_of) := ⟨rfl, rfl, rfl, by decide +kernel, rfl, by decide +kernel, by decide +kernel⟩
def spNumberOfE (K : PySem.W.Frag) : Sp := fun vs H Q E => ∃ (x y : V), vs = [x, y] ∧ GateB K H x E fun b => GateR K H b y E fun a n => RetAny H Q
theorem ok_number_of_X {P : Program} {w : World} {K : PySem.W.Frag} {mg : Str → Option Value} {base : Heap} (D : Dfn K mg "number_of" s_number_of) (CX_need_base : Cal P w K mg base (L2.CX P w) "need_base" 3 ["base"] (spNeedBaseX K)) (CX_need_row : Cal P w K mg base (L2.CX P w) "need_row" 6 ["base", "row"] (spNeedRowX K)) (m_reversed : mg "reversed" = none) : Cal P w K mg base (L2.CX P w) "number_of" 7 (["base", "row"]) (spNumberOfE K) := by
  refine calX D sc_number_of (fun _ _ _ _ _ _ us hl => match us, hl with | [_, _], _ => rfl) (fun vs H Q E h => ?_) (fun f cdv A outer s H vs Q E hr h => ?_)
  · obtain ⟨x, y, rfl, _⟩ := h
    rfl
  obtain ⟨x, y, rfl, hg⟩ := h
  refine ⟨_, (pss_cons (ps_expr (pcE CX_need_base hr (takes_of rfl rfl rfl rfl) (pa_cons (pv 0) pa_nil)))
      (pss_cons (ps_expr (pcE CX_need_row hr (takes_of rfl rfl rfl rfl) (pa_cons (pv 0) (pa_cons (pv 1) pa_nil))))
      (pss_cons (ps_set (i := 2) sc_number_of.nd rfl (Or.inl rfl) pe_int)
      (pss_cons (ps_for (passes_of rfl) rfl (pi_reversed (by rfl) m_reversed (pa_cons (pv 1) pa_nil)) (pg_name (i := 3) sc_number_of.nd rfl (Or.inl rfl)) (pss_one (ps_set (i := 2) sc_number_of.nd rfl (Or.inl rfl) (pe_op op_add (pe_op op_mul (pv 2) (pv 0)) (pv 3)))))
      (pss_one (ps_ret (pv 2))))))), ?_⟩
  show tSeq _ _ _ (L2.start (["base", "row", "total", "figure"]) [x, y]) H
  have T := Trk.nil H
  show tSeq _ _ _ [some x, some y, none, none] H
  rcases hg with ⟨o, hk, e, hE⟩ | ⟨b, rfl, hb, hg⟩
  · walk_at "s"
    exact nbBad T hk e hE
  walk_at "s"
  refine nbOk hb (t_retV T fun _ T => ?_)
  rcases hg with ⟨hk, hE⟩ | ⟨a, n, rfl, ha, hn, hg⟩
  · walk_at "s"
    exact nrBad T hb hk hE
  walk_at "s"
  refine nrOk hb (T.up ha) hn (t_retV T fun _ T => ?_)
  have q := hg
  walk_at "s"
  refine RT.for_Itv (xs := dig b n) (fun i σ' H' => (∃ (t : Int) (y : Option V), σ' = [some (.int (b : Int)), some (.ref a), some (.int t), y]) ∧ Trk H H' []) ⟨⟨0, none, rfl⟩, T⟩ ?_ ?_ ?_
  · rintro i σ' H' ⟨_, T⟩
    exact SqL.of (T.up ha)
  · rintro i x σ' H' hi hx ⟨⟨t, y, rfl⟩, T⟩
    obtain ⟨u, hu, rfl⟩ := iv_at hx
    walk_at "s"
    refine x_I (Or.inr ⟨by omega, by omega⟩) ?_
    walk_at "s"
    exact ⟨⟨_, _, rfl⟩, T⟩
  · rintro σ' H' ⟨⟨t, y, rfl⟩, T⟩
    walk_at "s"
    exact q _ _ T.same

/-! ### product, all that is handed in -/
abbrev s_product : Stmt := topS 49
theorem sc_product : FnScope ["base", "one", "other", "least"] ["base", "one", "other", "least"] (defScope s_product) := ⟨rfl, rfl, rfl, by decide +kernel, rfl, by decide +kernel, by decide +kernel⟩
def spProductE (K : PySem.W.Frag) : Sp := fun vs H Q E => ∃ (x y z z2 : V), vs = [x, y, z, z2] ∧ GateB K H x E fun b => GateR K H b y E fun a n => GateR K H b z E fun a2 n2 => GateC K H 3 z2 E fun c => RetAny H Q
theorem ok_product_X {P : Program} {w : World} {K : PySem.W.Frag} {mg : Str → Option Value} {base : Heap} (D : Dfn K mg "product" s_product) (CX_need_base : Cal P w K mg base (L2.CX P w) "need_base" 3 ["base"] (spNeedBaseX K)) (CX_need_row : Cal P w K mg base (L2.CX P w) "need_row" 6 ["base", "row"] (spNeedRowX K)) (CX_need_count : Cal P w K mg base (L2.CX P w) "need_count" 2 ["count", "least"] (spNeedCountX K)) (gc_LEAST : ∃ t, mg "LEAST" = some (.int 3 t)) (C_by_halves : Cal P w K mg base CX0 "by_halves" 13 ["base", "one", "other", "least"] (spByHalves 9)) : Cal P w K mg base (L2.CX P w) "product" 14 (["base", "one", "other", "least"]) (spProductE K) := by
  refine calX D sc_product (fun _ _ _ _ _ _ us hl => match us, hl with | [_, _, _, _], _ => rfl) (fun vs H Q E h => ?_) (fun f cdv A outer s H vs Q E hr h => ?_)
  · obtain ⟨x, y, z, z2, rfl, _⟩ := h
    rfl
  obtain ⟨x, y, z, z2, rfl, hg⟩ := h
  obtain ⟨t3, g3⟩ := gc_LEAST
  refine ⟨_, (pss_cons (ps_expr (pcE CX_need_base hr (takes_of rfl rfl rfl rfl) (pa_cons (pv 0) pa_nil)))
      (pss_cons (ps_expr (pcE CX_need_row hr (takes_of rfl rfl rfl rfl) (pa_cons (pv 0) (pa_cons (pv 1) pa_nil))))
      (pss_cons (ps_expr (pcE CX_need_row hr (takes_of rfl rfl rfl rfl) (pa_cons (pv 0) (pa_cons (pv 2) pa_nil))))
      (pss_cons (ps_expr (pcE CX_need_count hr (takes_of rfl rfl rfl rfl) (pa_cons (pv 3) (pa_cons (pe_glob (v := .int 3) (by rfl) g3 ⟨_, rfl⟩) pa_nil))))
      (pss_one (ps_ret (pc C_by_halves hr (pa_cons (pv 0) (pa_cons (pv 1) (pa_cons (pv 2) (pa_cons (pv 3) pa_nil))))))))))), ?_⟩
  show tSeq _ _ _ (L2.start (["base", "one", "other", "least"]) [x, y, z, z2]) H
  have T := Trk.nil H
  show tSeq _ _ _ [some x, some y, some z, some z2] H
  rcases hg with ⟨o, hk, e, hE⟩ | ⟨b, rfl, hb, hg⟩
  · walk_at "s"
    exact nbBad T hk e hE
  walk_at "s"
  refine nbOk hb (t_retV T fun _ T => ?_)
  rcases hg with ⟨hk, hE⟩ | ⟨a, n, rfl, ha, hn, hg⟩
  · walk_at "s"
    exact nrBad T hb hk hE
  walk_at "s"
  refine nrOk hb (T.up ha) hn (t_retV T fun _ T => ?_)
  rcases hg with ⟨hk, hE⟩ | ⟨a2, n2, rfl, ha2, hn2, hg⟩
  · walk_at "s"
    exact nrBad T hb hk hE
  walk_at "s"
  refine nrOk hb (T.up ha2) hn2 (t_retV T fun _ T => ?_)
  rcases hg with ⟨o, hk, e, hE⟩ | ⟨c, rfl, hc, hc1, hg⟩
  · walk_at "s"
    exact ncBad T hk e hE
  walk_at "s"
  refine ncOk hc (t_retV T fun _ T => ?_)
  have q := hg
  walk_at "s"
  have e9 : (2 : Nat) ^ (9 - 1) = 256 := rfl
  refine ⟨_, _, _, _, _, _, rfl, hb, T.up ha, T.up ha2, by omega, by omega, by omega, by omega, by omega, by omega, t_retL T fun p H4 T => ?_⟩
  exact q _ _ T.same
/-! ### effort, all that is handed in -/
abbrev s_effort : Stmt := topS 51
theorem sc_effort : FnScope ["base", "one", "other", "least"] ["base", "one", "other", "least"] (defScope s_effort) := ⟨rfl, rfl, rfl, by decide +kernel, rfl, by decide +kernel, by decide +kernel⟩
def spEffortE (K : PySem.W.Frag) : Sp := fun vs H Q E => ∃ (x y z z2 : V), vs = [x, y, z, z2] ∧ GateB K H x E fun b => GateR K H b y E fun a n => GateR K H b z E fun a2 n2 => GateC K H 3 z2 E fun c => RetAny H Q
theorem ok_effort_X {P : Program} {w : World} {K : PySem.W.Frag} {mg : Str → Option Value} {base : Heap} (D : Dfn K mg "effort" s_effort) (CX_need_base : Cal P w K mg base (L2.CX P w) "need_base" 3 ["base"] (spNeedBaseX K)) (CX_need_row : Cal P w K mg base (L2.CX P w) "need_row" 6 ["base", "row"] (spNeedRowX K)) (CX_need_count : Cal P w K mg base (L2.CX P w) "need_count" 2 ["count", "least"] (spNeedCountX K)) (gc_LEAST : ∃ t, mg "LEAST" = some (.int 3 t)) (C_efforts : Cal P w K mg base CX0 "efforts" 12 ["base", "one", "other", "least"] (spEfforts 9)) : Cal P w K mg base (L2.CX P w) "effort" 13 (["base", "one", "other", "least"]) (spEffortE K) := by
  refine calX D sc_effort (fun _ _ _ _ _ _ us hl => match us, hl with | [_, _, _, _], _ => rfl) (fun vs H Q E h => ?_) (fun f cdv A outer s H vs Q E hr h => ?_)
  · obtain ⟨x, y, z, z2, rfl, _⟩ := h
    rfl
  obtain ⟨x, y, z, z2, rfl, hg⟩ := h
  obtain ⟨t3, g3⟩ := gc_LEAST
  refine ⟨_, (pss_cons (ps_expr (pcE CX_need_base hr (takes_of rfl rfl rfl rfl) (pa_cons (pv 0) pa_nil)))
      (pss_cons (ps_expr (pcE CX_need_row hr (takes_of rfl rfl rfl rfl) (pa_cons (pv 0) (pa_cons (pv 1) pa_nil))))
      (pss_cons (ps_expr (pcE CX_need_row hr (takes_of rfl rfl rfl rfl) (pa_cons (pv 0) (pa_cons (pv 2) pa_nil))))
      (pss_cons (ps_expr (pcE CX_need_count hr (takes_of rfl rfl rfl rfl) (pa_cons (pv 3) (pa_cons (pe_glob (v := .int 3) (by rfl) g3 ⟨_, rfl⟩) pa_nil))))
      (pss_one (ps_ret (pc C_efforts hr (pa_cons (pv 0) (pa_cons (pv 1) (pa_cons (pv 2) (pa_cons (pv 3) pa_nil))))))))))), ?_⟩
  show tSeq _ _ _ (L2.start (["base", "one", "other", "least"]) [x, y, z, z2]) H
  have T := Trk.nil H
  show tSeq _ _ _ [some x, some y, some z, some z2] H
  rcases hg with ⟨o, hk, e, hE⟩ | ⟨b, rfl, hb, hg⟩
  · walk_at "s"
    exact nbBad T hk e hE
  walk_at "s"
  refine nbOk hb (t_retV T fun _ T => ?_)
  rcases hg with ⟨hk, hE⟩ | ⟨a, n, rfl, ha, hn, hg⟩
  · walk_at "s"
    exact nrBad T hb hk hE
  walk_at "s"
  refine nrOk hb (T.up ha) hn (t_retV T fun _ T => ?_)
  rcases hg with ⟨hk, hE⟩ | ⟨a2, n2, rfl, ha2, hn2, hg⟩
  · walk_at "s"
    exact nrBad T hb hk hE
  walk_at "s"
  refine nrOk hb (T.up ha2) hn2 (t_retV T fun _ T => ?_)
  rcases hg with ⟨o, hk, e, hE⟩ | ⟨c, rfl, hc, hc1, hg⟩
  · walk_at "s"
    exact ncBad T hk e hE
  walk_at "s"
  refine ncOk hc (t_retV T fun _ T => ?_)
  have q := hg
  walk_at "s"
  have e9 : (2 : Nat) ^ (9 - 1) = 256 := rfl
  refine ⟨_, _, _, _, _, _, rfl, hb, T.up ha, T.up ha2, by omega, by omega, by omega, by omega, by omega, by omega, t_retV T fun H4 T => ?_⟩
  exact q _ _ T.same
/-! ### ladder, all that is handed in -/
abbrev s_ladder : Stmt := topS 40
theorem sc_ladder : FnScope ["base", "one", "other", "found", "high", "low", "number", "left"] ["base", "one", "other"] (defScope s_ladder) := ⟨rfl, rfl, rfl, by decide +kernel, rfl, by decide +kernel, by decide +kernel⟩
def spLadderE (K : PySem.W.Frag) : Sp := fun vs H Q E => ∃ (x y z : V), vs = [x, y, z] ∧ GateB K H x E fun b => GateR K H b y E fun a n => GateR K H b z E fun c m => RetAny H Q
theorem ok_ladder_X {P : Program} {w : World} {K : PySem.W.Frag} {mg : Str → Option Value} {base : Heap} (D : Dfn K mg "ladder" s_ladder) (CX_need_base : Cal P w K mg base (L2.CX P w) "need_base" 3 ["base"] (spNeedBaseX K)) (CX_need_row : Cal P w K mg base (L2.CX P w) "need_row" 6 ["base", "row"] (spNeedRowX K)) (m_list : mg "list" = none) (C_shares : Cal P w K mg base CX0 "shares" 4 ["base", "one", "other"] spShares) : Cal P w K mg base (L2.CX P w) "ladder" 7 (["base", "one", "other"]) (spLadderE K) := by
  refine calX D sc_ladder (fun _ _ _ _ _ _ us hl => match us, hl with | [_, _, _], _ => rfl) (fun vs H Q E h => ?_) (fun f cdv A outer s H vs Q E hr h => ?_)
  · obtain ⟨x, y, z, rfl, _⟩ := h
    rfl
  obtain ⟨x, y, z, rfl, hg⟩ := h
  refine ⟨_, (pss_cons (ps_expr (pcE CX_need_base hr (takes_of rfl rfl rfl rfl) (pa_cons (pv 0) pa_nil)))
      (pss_cons (ps_expr (pcE CX_need_row hr (takes_of rfl rfl rfl rfl) (pa_cons (pv 0) (pa_cons (pv 1) pa_nil))))
      (pss_cons (ps_expr (pcE CX_need_row hr (takes_of rfl rfl rfl rfl) (pa_cons (pv 0) (pa_cons (pv 2) pa_nil))))
      (pss_cons (ps_set (i := 3) sc_ladder.nd rfl (Or.inl rfl) (pe_lst pa_nil))
      (pss_cons (ps_par (i := 4) (j := 5) rfl sc_ladder.nd rfl rfl (by decide) rfl rfl (pa_cons (pe_callTy call_list1 (by rfl) m_list (by decide +kernel) (pa_cons (pv 1) pa_nil)) (pa_cons (pe_callTy call_list1 (by rfl) m_list (by decide +kernel) (pa_cons (pv 2) pa_nil)) pa_nil)) (by rfl))
      (pss_cons (ps_while (passes_of rfl) (pt_cmpR (op_neD hr.units) (pv 5) (pe_lst pa_nil) (nomark _)) (pss_cons (ps_asg (pc C_shares hr (pa_cons (pv 0) (pa_cons (pv 4) (pa_cons (pv 5) pa_nil)))) (pg_tup rfl (pgs_cons (pg_name (i := 6) sc_ladder.nd rfl (Or.inl rfl)) (pgs_cons (pg_name (i := 7) sc_ladder.nd rfl (Or.inl rfl)) pgs_nil))))
      (pss_cons (ps_expr (pe_bm PySem.F.plainAttrs_list PySem.F.slot_list_append PySem.F.type_list_append mt_append (pv 3) (pa_cons (pv 6) pa_nil)))
      (pss_one (ps_par (i := 4) (j := 5) rfl sc_ladder.nd rfl rfl (by decide) rfl rfl (pa_cons (pv 5) (pa_cons (pv 7) pa_nil)) (by rfl))))))
      (pss_one (ps_ret (pe_tup (pa_cons (pv 3) (pa_cons (pv 4) pa_nil))))))))))), ?_⟩
  show tSeq _ _ _ (L2.start (["base", "one", "other", "found", "high", "low", "number", "left"]) [x, y, z]) H
  have T := Trk.nil H
  show tSeq _ _ _ [some x, some y, some z, none, none, none, none, none] H
  rcases hg with ⟨o, hk, e, hE⟩ | ⟨b, rfl, hb, hg⟩
  · walk_at "s"
    exact nbBad T hk e hE
  walk_at "s"
  refine nbOk hb (t_retV T fun _ T => ?_)
  rcases hg with ⟨hk, hE⟩ | ⟨a, n, rfl, ha, hn, hg⟩
  · walk_at "s"
    exact nrBad T hb hk hE
  walk_at "s"
  refine nrOk hb (T.up ha) hn (t_retV T fun _ T => ?_)
  rcases hg with ⟨hk, hE⟩ | ⟨c, m, rfl, hc, hml, hg⟩
  · walk_at "s"
    exact nrBad T hb hk hE
  walk_at "s"
  refine nrOk hb (T.up hc) hml (t_retV T fun _ T => ?_)
  have q := hg
  walk_at "s"
  obtain ⟨qs, g, hlad, hql⟩ := lad_total 2001 n m (by
    have h := pow_bits hb hml
    rw [Int.natAbs_natCast] at h
    exact h)
  have hn : (digits b n).length ≤ 10000 := by omega
  have hml : (digits b m).length ≤ 10000 := by omega
  walk_at "s"
  refine t_new T (Nat.le_of_ble_eq_true rfl) fun d T => ?_
  walk_at "s"
  refine t_list T (T.up ha) fun h0 T => ?_
  walk_at "s"
  refine t_list T (T.up hc) fun l0 T => ?_
  walk_at "s"
  refine x_while (fun j σ' H' => ∃ (rs : List (Addr × Nat)) (qs' : List Nat) (x : Nat) (h lo : Addr) (u v : Option V), σ' = [some (.int (b : Int)), some (.ref a), some (.ref c), some (.ref d), some (.ref h), some (.ref lo), u, v] ∧ Lad x j qs' g ∧ nums rs ++ qs' = qs ∧ (digits b x).length ≤ 10000 ∧ (digits b j).length ≤ 10000 ∧
    Trk H H' ((lo, .lst (dig b j)) :: (h, .lst (dig b x)) :: (d, .lst (refs rs)) :: lays b rs)) m ⟨[], qs, n, h0, l0, none, none, rfl, hlad, rfl, hn, hml, T⟩ ?_
  clear T
  rintro j σ' H' ⟨rs, qs', x, h, lo, u, v, rfl, hl, hqs, hxl, hjl, T⟩
  have hrl : rs.length ≤ 50000 := by
    have := congrArg List.length hqs
    rw [List.length_append, nums_len] at this
    omega
  walk_at "s"
  refine t_new T (Nat.le_of_ble_eq_true rfl) fun e T => ?_
  walk_at "s"
  refine x_neL (l := digits b j) (m := []) (by walk_at "fact") (by walk_at "fact") ?_
  walk_at "s"
  refine if2 (fun h1 => ?_) (fun h1 => ?_)
  · have h2 : 0 < j := by
      rcases Nat.eq_zero_or_pos j with z | z
      · rw [decide_eq_true ((digits_nil hb.1).mpr z)] at h1
        cases h1
      · exact z
    obtain ⟨qs2, rfl, hl2⟩ := lad_pos h2 hl
    refine x_turn ?_
    walk_at "s"
    refine ⟨_, _, _, _, _, rfl, hb, by walk_at "fact", by walk_at "fact", h2, by omega, by omega, t_retPP T fun t p r H5 T => ?_⟩
    walk_at "s"
    refine t_app (i := 6) T (by exact rfl) (by rw [refs_len]; omega) fun T => ?_
    walk_at "s"
    have hjr := digits_len_mono hb.1 (Nat.le_of_lt (Nat.mod_lt x h2))
    refine ⟨x % j, Nat.mod_lt _ h2, rs ++ [(p, x / j)], qs2, j, lo, r, _, _, rfl, hl2, ?_, hjl, by omega, ?_⟩
    · rw [nums_snoc, List.append_assoc]
      exact hqs
    · rw [refs_snoc, lays_snoc]
      have T2 := T.sub (L' := (p, .lst (dig b (x / j))) :: (r, .lst (dig b (x % j))) :: (lo, .lst (dig b j)) :: (d, .lst (refs rs ++ [V.ref p])) :: lays b rs) (.cons _ (.cons₂ _ (.cons₂ _ (.cons _ (.cons₂ _ (.cons _ (.cons₂ _ (.refl _))))))))
      exact (T2.perm (perm4 _ _ _ _ _)).perm (List.Perm.swap _ _ _)
  · have h2 : j = 0 := by
      rcases Nat.eq_zero_or_pos j with z | z
      · exact z
      · rw [decide_eq_false (fun z => by rw [digits_nil hb.1] at z; omega)] at h1
        cases h1
    subst h2
    obtain ⟨rfl, rfl⟩ := lad_zero hl
    walk_at "s"
    refine t_tup T (Nat.le_of_ble_eq_true rfl) fun t T => ?_
    rw [List.append_nil] at hqs
    exact q _ _ T.same
/-! ### turned, all that is handed in -/
abbrev s_turned : Stmt := topS 41
theorem sc_turned : FnScope ["base", "row", "other", "by", "found", "left", "figure", "figures", "total"] ["base", "row", "other"] (defScope s_turned) := ⟨rfl, rfl, rfl, by decide +kernel, rfl, by decide +kernel, by decide +kernel⟩
def spTurnedE (K : PySem.W.Frag) : Sp := fun vs H Q E => ∃ (x y z : V), vs = [x, y, z] ∧ GateB K H x E fun b => GateR K H b y E fun a n => GateB K H z E fun o => RetAny H Q
theorem ok_turned_X {P : Program} {w : World} {K : PySem.W.Frag} {mg : Str → Option Value} {base : Heap} (D : Dfn K mg "turned" s_turned) (CX_need_base : Cal P w K mg base (L2.CX P w) "need_base" 3 ["base"] (spNeedBaseX K)) (CX_need_row : Cal P w K mg base (L2.CX P w) "need_row" 6 ["base", "row"] (spNeedRowX K)) (m_list : mg "list" = none) (m_reversed : mg "reversed" = none) (C_row_of : Cal P w K mg base CX0 "row_of" 4 ["base", "number"] spRowOf) (C_parts_of : Cal P w K mg base CX0 "parts_of" 2 ["base", "row", "figure"] spPartsOf) (C_shares : Cal P w K mg base CX0 "shares" 4 ["base", "one", "other"] spShares) : Cal P w K mg base (L2.CX P w) "turned" 7 (["base", "row", "other"]) (spTurnedE K) := by
  refine calX D sc_turned (fun _ _ _ _ _ _ us hl => match us, hl with | [_, _, _], _ => rfl) (fun vs H Q E h => ?_) (fun f cdv A outer s H vs Q E hr h => ?_)
  · obtain ⟨x, y, z, rfl, _⟩ := h
    rfl
  obtain ⟨x, y, z, rfl, hg⟩ := h
  refine ⟨_, (pss_cons (ps_expr (pcE CX_need_base hr (takes_of rfl rfl rfl rfl) (pa_cons (pv 0) pa_nil)))
      (pss_cons (ps_expr (pcE CX_need_row hr (takes_of rfl rfl rfl rfl) (pa_cons (pv 0) (pa_cons (pv 1) pa_nil))))
      (pss_cons (ps_expr (pcE CX_need_base hr (takes_of rfl rfl rfl rfl) (pa_cons (pv 2) pa_nil)))
      (pss_cons (ps_set (i := 3) sc_turned.nd rfl (Or.inl rfl) (pc C_row_of hr (pa_cons (pv 0) (pa_cons (pv 2) pa_nil))))
      (pss_cons (ps_set (i := 4) sc_turned.nd rfl (Or.inl rfl) (pe_lst pa_nil))
      (pss_cons (ps_set (i := 5) sc_turned.nd rfl (Or.inl rfl) (pe_callTy call_list1 (by rfl) m_list (by decide +kernel) (pa_cons (pv 1) pa_nil)))
      (pss_cons (ps_while (passes_of rfl) (PW.pt (pw_and (pt_cmpR (op_neD hr.units) (pv 5) (pe_lst pa_nil) (nomark _)) (pw_and1 (pt_cmpR op_lt (pv 2) (pv 0) (nomark _))))) (pss_cons (ps_asg (pc C_parts_of hr (pa_cons (pv 0) (pa_cons (pv 5) (pa_cons (pv 2) pa_nil)))) (pg_tup rfl (pgs_cons (pg_name (i := 5) sc_turned.nd rfl (Or.inl rfl)) (pgs_cons (pg_name (i := 6) sc_turned.nd rfl (Or.inl rfl)) pgs_nil))))
      (pss_one (ps_expr (pe_bm PySem.F.plainAttrs_list PySem.F.slot_list_append PySem.F.type_list_append mt_append (pv 4) (pa_cons (pv 6) pa_nil))))))
      (pss_cons (ps_while (passes_of rfl) (pt_cmpR (op_neD hr.units) (pv 5) (pe_lst pa_nil) (nomark _)) (pss_cons (ps_asg (pc C_shares hr (pa_cons (pv 0) (pa_cons (pv 5) (pa_cons (pv 3) pa_nil)))) (pg_tup rfl (pgs_cons (pg_name (i := 5) sc_turned.nd rfl (Or.inl rfl)) (pgs_cons (pg_name (i := 7) sc_turned.nd rfl (Or.inl rfl)) pgs_nil))))
      (pss_cons (ps_set (i := 8) sc_turned.nd rfl (Or.inl rfl) pe_int)
      (pss_cons (ps_for (passes_of rfl) rfl (pi_reversed (by rfl) m_reversed (pa_cons (pv 7) pa_nil)) (pg_name (i := 6) sc_turned.nd rfl (Or.inl rfl)) (pss_one (ps_set (i := 8) sc_turned.nd rfl (Or.inl rfl) (pe_op op_add (pe_op op_mul (pv 8) (pv 0)) (pv 6)))))
      (pss_one (ps_expr (pe_bm PySem.F.plainAttrs_list PySem.F.slot_list_append PySem.F.type_list_append mt_append (pv 4) (pa_cons (pv 8) pa_nil))))))))
      (pss_one (ps_ret (pv 4))))))))))), ?_⟩
  show tSeq _ _ _ (L2.start (["base", "row", "other", "by", "found", "left", "figure", "figures", "total"]) [x, y, z]) H
  have T := Trk.nil H
  show tSeq _ _ _ [some x, some y, some z, none, none, none, none, none, none] H
  rcases hg with ⟨o, hk, e, hE⟩ | ⟨b, rfl, hb, hg⟩
  · walk_at "s"
    exact nbBad T hk e hE
  walk_at "s"
  refine nbOk hb (t_retV T fun _ T => ?_)
  rcases hg with ⟨hk, hE⟩ | ⟨a, n, rfl, ha, hn, hg⟩
  · walk_at "s"
    exact nrBad T hb hk hE
  walk_at "s"
  refine nrOk hb (T.up ha) hn (t_retV T fun _ T => ?_)
  rcases hg with ⟨_, hk, e, hE⟩ | ⟨o, rfl, ho, hg⟩
  · walk_at "s"
    exact nbBad T hk e hE
  walk_at "s"
  refine nbOk ho (t_retV T fun _ T => ?_)
  have q := hg
  walk_at "s"
  have hob : (digits b o).length ≤ 20 := digits_len_le hb.1 (Nat.lt_of_lt_of_le (Nat.lt_of_le_of_lt ho.2 (by decide : 1000000 < 2 ^ 20)) (Nat.pow_le_pow_left hb.1 20))
  have hno := digits_len_other (c := o) hb ho.1 hn
  walk_at "s"
  refine ⟨_, _, rfl, hb, by omega, t_retL T fun p1 H4 T => ?_⟩
  walk_at "s"
  refine t_new T (Nat.le_of_ble_eq_true rfl) fun d T => ?_
  walk_at "s"
  refine t_list T (T.up ha) fun e T => ?_
  walk_at "s"
  refine x_mid (fun σ' H' => ∃ (acc : List Nat) (m : Nat) (e : Addr) (y : Option V), σ' = [some (.int (b : Int)), some (.ref a), some (.int (o : Int)), some (.ref p1), some (.ref d), some (.ref e), y, none, none] ∧ acc ++ digits o m = digits o n ∧ m ≤ n ∧ Trk H H' [(e, .lst (dig b m)), (d, .lst (iv acc)), (p1, .lst (dig b o))]) ?_ ?_
  · intro R hk
    refine x_while (fun j σ' H' => ∃ (acc : List Nat) (m : Nat) (e : Addr) (y : Option V), σ' = [some (.int (b : Int)), some (.ref a), some (.int (o : Int)), some (.ref p1), some (.ref d), some (.ref e), y, none, none] ∧ j = m ∧ acc ++ digits o m = digits o n ∧ m ≤ n ∧ Trk H H' [(e, .lst (dig b m)), (d, .lst (iv acc)), (p1, .lst (dig b o))]) n ⟨[], n, e, none, rfl, rfl, rfl, Nat.le_refl _, T⟩ ?_
    clear T
    rintro j σ' H' ⟨acc, m, e, y, rfl, rfl, hacc, hmn, T⟩
    have hml := digits_len_mono hb.1 hmn
    have hal : acc.length ≤ 20000 := by
      have := congrArg List.length hacc
      rw [List.length_append] at this
      omega
    walk_at "s"
    refine t_new T (Nat.le_of_ble_eq_true rfl) fun p2 T => ?_
    walk_at "s"
    refine x_neL (l := digits b j) (m := []) (by walk_at "fact") (by walk_at "fact") ?_
    walk_at "s"
    refine if2 (fun h1 => ?_) (fun h1 => ?_)
    · have h2 : 0 < j := by
        rcases Nat.eq_zero_or_pos j with z | z
        · rw [decide_eq_true ((digits_nil hb.1).mpr z)] at h1
          cases h1
        · exact z
      walk_at "s"
      refine if2 (fun h3 => ?_) (fun h3 => ?_)
      · refine x_turn ?_
        walk_at "s"
        refine ⟨_, _, _, _, rfl, hb, by walk_at "fact", by omega, by omega, t_retP T fun t p H5 T => ?_⟩
        walk_at "s"
        refine t_app (i := 4) T (by exact rfl) (by rw [iv_length]; omega) fun T => ?_
        rw [← iv_snoc] at T ⊢
        walk_at "s"
        refine ⟨j / o, Nat.div_lt_self h2 ho.1, acc ++ [j % o], j / o, p, _, rfl, rfl, ?_, Nat.le_trans (Nat.div_le_self _ _) hmn, T.three 1 4 5 rfl rfl rfl (by decide) (by decide) (by decide)⟩
        rw [← hacc, digits_pos ho.1 h2, List.append_assoc]
        rfl
      · walk_at "s"
        exact hk _ _ ⟨acc, j, e, y, rfl, hacc, hmn, T.drop 1⟩
    · walk_at "s"
      exact hk _ _ ⟨acc, j, e, y, rfl, hacc, hmn, T.drop 1⟩
  clear T e
  rintro σ' H' ⟨acc, m, e, y, rfl, hacc, hmn, T⟩
  walk_at "s"
  refine x_while (fun j σ' H' => ∃ (acc : List Nat) (m : Nat) (e : Addr) (y z u : Option V), σ' = [some (.int (b : Int)), some (.ref a), some (.int (o : Int)), some (.ref p1), some (.ref d), some (.ref e), y, z, u] ∧ j = m ∧ acc ++ digits o m = digits o n ∧ m ≤ n ∧ Trk H H' [(e, .lst (dig b m)), (d, .lst (iv acc)), (p1, .lst (dig b o))]) m ⟨acc, m, e, y, none, none, rfl, rfl, hacc, hmn, T⟩ ?_
  clear T hacc hmn
  rintro j σ' H' ⟨acc, m, e, y, z, u, rfl, rfl, hacc, hmn, T⟩
  have hml := digits_len_mono hb.1 hmn
  have hal : acc.length ≤ 20000 := by
    have := congrArg List.length hacc
    rw [List.length_append] at this
    omega
  walk_at "s"
  refine t_new T (Nat.le_of_ble_eq_true rfl) fun p2 T => ?_
  walk_at "s"
  refine x_neL (l := digits b j) (m := []) (by walk_at "fact") (by walk_at "fact") ?_
  walk_at "s"
  refine if2 (fun h1 => ?_) (fun h1 => ?_)
  · have h2 : 0 < j := by
      rcases Nat.eq_zero_or_pos j with z | z
      · rw [decide_eq_true ((digits_nil hb.1).mpr z)] at h1
        cases h1
      · exact z
    refine x_turn ?_
    walk_at "s"
    refine ⟨_, _, _, _, _, rfl, hb, by walk_at "fact", by walk_at "fact", by omega, by omega, by omega, t_retPP T fun t p p3 H5 T => ?_⟩
    walk_at "s"
    refine RT.for_Itv (xs := dig b (j % o)) (fun i σ' H' => (∃ y, σ' = [some (.int (b : Int)), some (.ref a), some (.int (o : Int)), some (.ref p1), some (.ref d), some (.ref p), y, some (.ref p3), some (.int ((top b (digits b (j % o)) i : Nat) : Int))]) ∧ Trk H H' [(p3, .lst (dig b (j % o))), (p, .lst (dig b (j / o))), (d, .lst (iv acc)), (p1, .lst (dig b o))]) ⟨⟨y, by rw [top_zero]; rfl⟩, ?_⟩ ?_ ?_ ?_
    · exact T.four 2 1 5 6 rfl rfl rfl rfl (by decide) (by decide) (by decide) (by decide) (by decide) (by decide)
    · rintro i σ' H' ⟨_, T⟩
      exact SqL.of (T.get (i := 0) rfl)
    · rintro i x σ' H' hi hx ⟨⟨y, rfl⟩, T⟩
      obtain ⟨u, hu, rfl⟩ := iv_at hx
      have e1 : (dig b (j % o)).length = (digits b (j % o)).length := iv_length _
      rw [e1] at hu hi
      have e2 := top_succ b (digits b (j % o)) hu hi
      walk_at "s"
      refine x_I (Or.inr ⟨by omega, by omega⟩) ?_
      walk_at "s"
      rw [top_nat, ← e2]
      exact ⟨⟨_, rfl⟩, T⟩
    · rintro σ' H' ⟨⟨y, rfl⟩, T⟩
      have e1 : (dig b (j % o)).length = (digits b (j % o)).length := iv_length _
      rw [e1, top_all, val_digits hb.1]
      walk_at "s"
      refine t_app (i := 2) T (by exact rfl) (by rw [iv_length]; omega) fun T => ?_
      rw [← iv_snoc] at T ⊢
      walk_at "s"
      refine ⟨j / o, Nat.div_lt_self h2 ho.1, acc ++ [j % o], j / o, p, _, _, _, rfl, rfl, ?_, Nat.le_trans (Nat.div_le_self _ _) hmn, T.drop 1⟩
      rw [← hacc, digits_pos ho.1 h2, List.append_assoc]
      rfl
  · have h2 : j = 0 := by
      rcases Nat.eq_zero_or_pos j with z | z
      · exact z
      · rw [decide_eq_false (fun z => by rw [digits_nil hb.1] at z; omega)] at h1
        cases h1
    subst h2
    walk_at "s"
    rw [digits_zero, List.append_nil] at hacc
    exact q _ _ T.same
/-! ### is_row, all that is handed in -/
def spIsRowE (K : PySem.W.Frag) : Sp := fun vs H Q E => ∃ (x y : V), vs = [x, y] ∧ GateB K H x E fun b => ∃ r, RowK H b y r ∧ RetV (.bl r) H Q
theorem ok_is_row_X {P : Program} {w : World} {K : PySem.W.Frag} {mg : Str → Option Value} {base : Heap} (D : Dfn K mg "is_row" s_is_row) (CX_need_base : Cal P w K mg base (L2.CX P w) "need_base" 3 ["base"] (spNeedBaseX K)) (m_isinstance : mg "isinstance" = none) (m_list : mg "list" = none) (C_is_figure : Cal P w K mg base CX0 "is_figure" 4 ["base", "figure"] spIsFigure) : Cal P w K mg base (L2.CX P w) "is_row" 5 (["base", "row"]) (spIsRowE K) := by
  refine calX D sc_is_row (fun _ _ _ _ _ _ us hl => match us, hl with | [_, _], _ => rfl) (fun vs H Q E h => ?_) (fun f cdv A outer s H vs Q E hr h => ?_)
  · obtain ⟨x, y, rfl, _⟩ := h
    rfl
  obtain ⟨x, y, rfl, hg⟩ := h
  refine ⟨_, (pss_cons (ps_expr (pcE CX_need_base hr (takes_of rfl rfl rfl rfl) (pa_cons (pv 0) pa_nil)))
      (pss_cons (ps_if (pt_not (pt_val (pe_callB call_isi (by rfl) m_isinstance (by decide +kernel) (pa_cons (pv 1) (pa_cons (pe_bltn (v := .ty "list") (by rfl) m_list (by decide +kernel) rfl) pa_nil))))) (pss_one (ps_ret pe_bl)) pss_nil)
      (pss_cons (ps_for (passes_of rfl) rfl (pi_list (pv 1)) (pg_name (i := 2) sc_is_row.nd rfl (Or.inl rfl)) (pss_one (ps_if (pt_not (pt_val (pc C_is_figure hr (pa_cons (pv 0) (pa_cons (pv 2) pa_nil))))) (pss_one (ps_ret pe_bl)) pss_nil)))
      (pss_one (ps_ret (pe_or (pe_cmpR (op_eqD hr.units) (pv 1) (pe_lst pa_nil) (nomark _)) (pe_one (pe_cmpR op_ne (pe_ix ix_list (pv 1) (pe_un un_neg pe_int) (fun _ _ => rfl)) pe_int (nomark _))))))))), ?_⟩
  show tSeq _ _ _ (L2.start (["base", "row", "figure"]) [x, y]) H
  have T := Trk.nil H
  show tSeq _ _ _ [some x, some y, none] H
  rcases hg with ⟨o, hk, e, hE⟩ | ⟨b, rfl, hb, hg⟩
  · walk_at "s"
    exact nbBad T hk e hE
  walk_at "s"
  refine nbOk hb (t_retV T fun _ T => ?_)
  have q := hg
  walk_at "s"
  obtain ⟨r, hk, q⟩ := q
  have s1 := T.same
  rcases hk with ⟨a, xs, ks, rfl, ha, hp, hl, rfl⟩ | ⟨hn, rfl⟩
  · have T := (Trk.nil H).call s1
    refine x_isiL (T.up ha) ?_
    walk_at "s"
    refine for_list (xs := xs) (fun i σ' H' => (∃ y, σ' = [some (.int (b : Int)), some (.ref a), y]) ∧ Trk H H' [] ∧ (ks.take i).all (figB b) = true) ⟨⟨none, rfl⟩, T, by rw [List.take_zero]; rfl⟩ ?_ ?_ ?_
    · rintro i σ' H' hi ⟨_, T, _⟩
      exact SqL.of (T.up ha)
    · rintro i x σ' H' hx ⟨⟨y, rfl⟩, T, hall⟩
      obtain ⟨o, ho, hkd⟩ := paired_get hp hx
      walk_at "s"
      refine ⟨_, _, _, rfl, hb, hkd.mono T.same, fun H2 s2 => ?_⟩
      have T := T.call s2
      cases hf : figB b o with
      | true =>
        walk_at "s"
        refine ⟨⟨_, rfl⟩, T, ?_⟩
        rw [List.take_add_one, ho, List.all_append, hall]
        show (true && (figB b o && true)) = true
        rw [hf]
        rfl
      | false =>
        walk_at "s"
        have e : rowB b ks = false := by
          unfold rowB
          have : ks.all (figB b) = false := by
            cases hq : ks.all (figB b) with
            | false => rfl
            | true =>
              have := List.all_eq_true.mp hq o (List.mem_of_getElem? ho)
              rw [hf] at this
              cases this
          rw [this, Bool.false_and]
        rw [e] at q
        exact q.go T
    · rintro σ' H' ⟨⟨y, rfl⟩, T, hall⟩
      rw [List.take_of_length_le (by rw [paired_len hp]; exact Nat.le_refl _)] at hall
      obtain ⟨l, rfl, rfl⟩ := paired_figs hp hall
      rw [rowB_iv hall] at q
      walk_at "s"
      refine ⟨Nat.zero_le _, fun d hd => ?_⟩
      have T := T.lay (o := .lst []) hd
      refine x_eqL (l := l) (m := []) (by walk_at "fact") (by walk_at "fact") ?_
      walk_at "s"
      refine if2 (fun h1 => ?_) (fun h1 => ?_)
      · have h2 : l = [] := of_decide_eq_true h1
        subst h2
        exact q.go T
      · have h2 : ¬ l = [] := of_decide_eq_false h1
        rw [List.getLast?_eq_some_getLast h2] at q
        walk_at "s"
        refine x_ix (v := .int ((l.getLast h2 : Nat) : Int)) (T.up ha) ?_ ?_
        · have e := atI_last (iv l.dropLast) (V.int ((l.getLast h2 : Nat) : Int))
          rw [← iv_snoc, List.dropLast_concat_getLast] at e
          exact e
        walk_at "s"
        exact q.go T
  · obtain ⟨t, ty, kb⟩ := (hn.mono s1).ty (K := K)
    refine x_isi ty kb ?_
    walk_at "s"
    exact q _ s1
/-! ### is_figure, all that is handed in -/
def spIsFigureE (K : PySem.W.Frag) : Sp := fun vs H Q E => ∃ (x y : V), vs = [x, y] ∧ GateB K H x E fun b => ∃ o, Kd H y o ∧ RetV (.bl (figB b o)) H Q
theorem ok_is_figure_X {P : Program} {w : World} {K : PySem.W.Frag} {mg : Str → Option Value} {base : Heap} (D : Dfn K mg "is_figure" s_is_figure) (CX_need_base : Cal P w K mg base (L2.CX P w) "need_base" 3 ["base"] (spNeedBaseX K)) (C_is_whole : Cal P w K mg base CX0 "is_whole" 1 ["thing"] spIsWhole) : Cal P w K mg base (L2.CX P w) "is_figure" 4 (["base", "figure"]) (spIsFigureE K) := by
  refine calX D sc_is_figure (fun _ _ _ _ _ _ us hl => match us, hl with | [_, _], _ => rfl) (fun vs H Q E h => ?_) (fun f cdv A outer s H vs Q E hr h => ?_)
  · obtain ⟨x, y, rfl, _⟩ := h
    rfl
  obtain ⟨x, y, rfl, hg⟩ := h
  refine ⟨_, (pss_cons (ps_expr (pcE CX_need_base hr (takes_of rfl rfl rfl rfl) (pa_cons (pv 0) pa_nil)))
      (pss_one (ps_ret (pe_and (pc C_is_whole hr (pa_cons (pv 1) pa_nil)) (pe_one (pe_chain op_le op_lt pe_int (pv 1) (pv 0))))))), ?_⟩
  show tSeq _ _ _ (L2.start (["base", "figure"]) [x, y]) H
  have T := Trk.nil H
  show tSeq _ _ _ [some x, some y] H
  rcases hg with ⟨o, hk, e, hE⟩ | ⟨b, rfl, hb, hg⟩
  · walk_at "s"
    exact nbBad T hk e hE
  walk_at "s"
  refine nbOk hb (t_retV T fun _ T => ?_)
  have q := hg
  walk_at "s"
  obtain ⟨o, hk, q⟩ := q
  have s1 := T.same
  refine ⟨_, _, rfl, hk.mono s1, fun H2 s2 => ?_⟩
  cases o with
  | none =>
    walk_at "s"
    exact q _ (s1.trans s2)
  | some i =>
    cases hk.some_int
    walk_at "s"
    refine ifT rfl ?_
    walk_at "s"
    have q1 := q H2 (s1.trans s2)
    have q2 : Q (.bl (decide (0 ≤ i) && decide (i < (b : Int)))) H2 := q1
    refine if2 (fun h1 => ?_) (fun h1 => ?_)
    · rw [h1, Bool.true_and] at q2
      walk_at "s"
      exact q2
    · rw [h1, Bool.false_and] at q2
      exact q2
/-! ### row_of, all that is handed in -/
def spRowOfE (K : PySem.W.Frag) : Sp := fun vs H Q E => ∃ (x y : V), vs = [x, y] ∧ GateB K H x E fun b => ((Kd H y none ∧ RaiseE K E "NoCount" H) ∨ (∃ i : Int, y = .int i ∧ i < 0 ∧ RaiseE K E "BelowNought" H) ∨ (∃ n : Nat, y = .int (n : Int) ∧ (digits b n).length ≤ 100 ∧ RetAny H Q))
theorem ok_row_of_X {P : Program} {w : World} {K : PySem.W.Frag} {mg : Str → Option Value} {base : Heap} (D : Dfn K mg "row_of" s_row_of) (CX_need_base : Cal P w K mg base (L2.CX P w) "need_base" 3 ["base"] (spNeedBaseX K)) (X_NoCount : Exc1 K mg "NoCount") (X_BelowNought : Exc1 K mg "BelowNought") (C_is_whole : Cal P w K mg base CX0 "is_whole" 1 ["thing"] spIsWhole) : Cal P w K mg base (L2.CX P w) "row_of" 4 (["base", "number"]) (spRowOfE K) := by
  refine calX D sc_row_of (fun _ _ _ _ _ _ us hl => match us, hl with | [_, _], _ => rfl) (fun vs H Q E h => ?_) (fun f cdv A outer s H vs Q E hr h => ?_)
  · obtain ⟨x, y, rfl, _⟩ := h
    rfl
  obtain ⟨x, y, rfl, hg⟩ := h
  refine ⟨_, (pss_cons (ps_expr (pcE CX_need_base hr (takes_of rfl rfl rfl rfl) (pa_cons (pv 0) pa_nil)))
      (pss_cons (ps_if (pt_not (pt_val (pc C_is_whole hr (pa_cons (pv 1) pa_nil)))) (pss_one (raise1 X_NoCount rfl (takes_of rfl rfl rfl rfl) rfl)) pss_nil)
      (pss_cons (ps_if (pt_cmpR op_lt (pv 1) pe_int (nomark _)) (pss_one (raise1 X_BelowNought rfl (takes_of rfl rfl rfl rfl) rfl)) pss_nil)
      (pss_cons (ps_set (i := 2) sc_row_of.nd rfl (Or.inl rfl) (pe_lst pa_nil))
      (pss_cons (ps_while (passes_of rfl) (pt_cmpR op_gt (pv 1) pe_int (nomark _)) (pss_cons (ps_expr (pe_bm PySem.F.plainAttrs_list PySem.F.slot_list_append PySem.F.type_list_append mt_append (pv 2) (pa_cons (pe_op op_mod (pv 1) (pv 0)) pa_nil)))
      (pss_one (ps_set (i := 1) sc_row_of.nd rfl (Or.inl rfl) (pe_op op_fdiv (pv 1) (pv 0))))))
      (pss_one (ps_ret (pv 2)))))))), ?_⟩
  show tSeq _ _ _ (L2.start (["base", "number", "row"]) [x, y]) H
  have T := Trk.nil H
  show tSeq _ _ _ [some x, some y, none] H
  rcases hg with ⟨o, hk, e, hE⟩ | ⟨b, rfl, hb, hg⟩
  · walk_at "s"
    exact nbBad T hk e hE
  walk_at "s"
  refine nbOk hb (t_retV T fun _ T => ?_)
  have q := hg
  walk_at "s"
  rcases q with ⟨hk, hE⟩ | ⟨i, rfl, hi, hE⟩ | ⟨n, rfl, hl, q⟩
  · refine ⟨_, _, rfl, hk.mono T.same, t_retV T fun _ T => ?_⟩
    walk_at "s"
    refine ifT rfl ?_
    walk_at "s"
    exact hE _ T.same
  · refine ⟨_, _, rfl, .int _, t_retV T fun _ T => ?_⟩
    walk_at "s"
    refine ifF rfl ?_
    walk_at "s"
    refine ifT (decide_eq_true hi) ?_
    walk_at "s"
    exact hE _ T.same
  refine ⟨_, _, rfl, .int _, t_retV T fun _ T => ?_⟩
  walk_at "s"
  refine ifF rfl ?_
  walk_at "s"
  refine ifF (decide_eq_false (by omega)) ?_
  walk_at "s"
  refine ⟨Nat.zero_le _, fun d hd => ?_⟩
  have T := T.lay (o := .lst []) hd
  walk_at "s"
  refine x_while (fun m σ' H' => ∃ acc : List Nat, σ' = [some (.int (b : Int)), some (.int (m : Int)), some (.ref d)] ∧ acc ++ digits b m = digits b n ∧ Trk H H' [(d, .lst (iv acc))]) n ⟨[], rfl, rfl, T⟩ ?_
  rintro m σ' H' ⟨acc, rfl, hacc, T⟩
  have hal : acc.length ≤ 40000 := by
    have := congrArg List.length hacc
    rw [List.length_append] at this
    omega
  walk_at "s"
  refine if2 (fun h1 => ?_) (fun h1 => ?_)
  · have h2 : (0 : Int) < (m : Int) := of_decide_eq_true h1
    refine x_turn ?_
    walk_at "s"
    refine x_I (by omega) ?_
    rw [nat_mod_cast]
    walk_at "s"
    refine x_app (by walk_at "fact") (by rw [iv_length]; omega) ?_
    have T := T.mut 0 rfl (o' := .lst (iv acc ++ [V.int (m % b : Nat)]))
    walk_at "s"
    refine x_I ⟨by omega, by omega⟩ ?_
    rw [nat_div_cast]
    walk_at "s"
    refine ⟨m / b, Nat.div_lt_self (by omega) hb.1, acc ++ [m % b], rfl, ?_, ?_⟩
    · rw [← hacc, digits_pos hb.1 (by omega : 0 < m), List.append_assoc]
      rfl
    · rw [iv_snoc]
      exact T
  · have h2 : ¬ (0 : Int) < (m : Int) := of_decide_eq_false h1
    have h3 : m = 0 := by omega
    subst h3
    walk_at "s"
    exact q _ _ T.same

/-! ### is_figures -/
abbrev s_is_figures : Stmt := topS 55
theorem sc_is_figures : FnScope ["word", "sign"] ["word"] (defScope s_is_figures) := ⟨rfl, rfl, rfl, by decide +kernel, rfl, by decide +kernel, by decide +kernel⟩
def SIG : Str := "0123456789"
def hd1 (w : Str) : Str := match w.cps.toList with
  | c :: _ => ⟨#[c]⟩
  | [] => ""
def figsB (w : Str) : Bool := w.cps.toList.all (fun c => decide (c ∈ SIG.cps.toList)) && (decide (w = "0") || (!decide (w = "") && !decide (hd1 w = "0")))
def spIsFigures : Sp := fun vs H Q _ => ∃ (w : Str), vs = [.str w] ∧ w.length ≤ 100000 ∧ RetV (.bl (figsB w)) H Q
theorem ok_is_figures {P : Program} {w : World} {K : PySem.W.Frag} {mg : Str → Option Value} {base : Heap} (D : Dfn K mg "is_figures" s_is_figures) (gs_SIGNS : ∃ t, mg "SIGNS" = some (.str "0123456789" t)) : Cal P w K mg base CX0 "is_figures" 1 (["word"]) spIsFigures := by
  refine cal0 D sc_is_figures (fun _ _ _ _ _ _ us hl => match us, hl with | [_], _ => rfl) (fun vs H Q E h => ?_) (fun f cdv A outer s H vs Q E hr h => ?_)
  · obtain ⟨w, rfl, _⟩ := h
    rfl
  obtain ⟨w, rfl, hw, q⟩ := h
  obtain ⟨tS, gS⟩ := gs_SIGNS
  refine ⟨_, (pss_cons (ps_for PassesOwn.never rfl (pi_str (pv 0)) (pg_name (i := 1) sc_is_figures.nd rfl (Or.inl rfl)) (pss_one (ps_if (pt_cmpR op_notInS (pv 1) (pe_glob (v := .str "0123456789") (by rfl) gS ⟨_, rfl⟩) (by rfl)) (pss_one (ps_ret pe_bl)) pss_nil)))
      (pss_one (ps_ret (pe_or (pe_cmpR op_eq (pv 0) pe_str (nomark _)) (pe_one (pe_and (pe_cmpR op_ne (pv 0) pe_str (nomark _)) (pe_one (pe_cmpR op_ne (pe_ix ix_str (pv 0) pe_int (fun _ _ => rfl)) pe_str (nomark _))))))))), ?_⟩
  show tSeq _ _ _ [some (.str w), none] H
  have T := Trk.nil H
  have hsz : w.cps.toList.length = w.cps.size := Array.length_toList
  walk_at "s"
  refine for_str (fun i σ' H' => (∃ y, σ' = [some (.str w), y]) ∧ Trk H H' [] ∧ (w.cps.toList.take i).all (fun c => decide (c ∈ SIG.cps.toList)) = true) ⟨⟨none, rfl⟩, T, by rw [List.take_zero]; rfl⟩ ?_ ?_
  · clear T
    rintro i c σ' H' hc ⟨⟨y, rfl⟩, T, hall⟩
    have hc2 : w.cps.toList[i]? = some c := by rw [Array.getElem?_toList]; exact hc
    walk_at "s"
    refine if2 (fun h1 => ?_) (fun h1 => ?_)
    · walk_at "s"
      have e : figsB w = false := by
        unfold figsB
        have : w.cps.toList.all (fun c => decide (c ∈ SIG.cps.toList)) = false := by
          cases hq : w.cps.toList.all (fun c => decide (c ∈ SIG.cps.toList)) with
          | false => rfl
          | true =>
            have h2 := List.all_eq_true.mp hq c (List.mem_of_getElem? hc2)
            have h3 : (!decide (c ∈ SIG.cps.toList)) = true := h1
            rw [h2] at h3
            cases h3
        rw [this, Bool.false_and]
      rw [e] at q
      exact q.go T
    · walk_at "s"
      refine ⟨⟨_, rfl⟩, T, ?_⟩
      have h3 : (!decide (c ∈ SIG.cps.toList)) = false := h1
      rw [List.take_add_one, hc2, List.all_append, hall]
      show (true && (decide (c ∈ SIG.cps.toList) && true)) = true
      cases hd : decide (c ∈ SIG.cps.toList) with
      | true => rfl
      | false =>
        rw [hd] at h3
        cases h3
  · clear T
    rintro σ' H' ⟨⟨y, rfl⟩, T, hall⟩
    rw [List.take_of_length_le (by omega)] at hall
    unfold figsB at q
    rw [hall, Bool.true_and] at q
    walk_at "s"
    by_cases h1 : w = "0"
    · refine ifT (decide_eq_true h1) ?_
      rw [decide_eq_true h1, Bool.true_or] at q
      first | exact q.go T | (walk_at "s"; exact q.go T)
    refine ifF (decide_eq_false h1) ?_
    rw [decide_eq_false h1, Bool.false_or] at q
    walk_at "s"
    by_cases h2 : w = ""
    · refine ifF (by rw [decide_eq_true h2]; rfl) ?_
      rw [decide_eq_true h2] at q
      first | exact q.go T | (walk_at "s"; exact q.go T)
    refine ifT (by rw [decide_eq_false h2]; rfl) ?_
    rw [decide_eq_false h2] at q
    obtain ⟨c, r, hcr⟩ : ∃ c r, w.cps.toList = c :: r := by
      cases e : w.cps.toList with
      | nil =>
        refine absurd ?_ h2
        obtain ⟨cp⟩ := w
        have : cp = #[] := by
          rw [← Array.toList_eq_nil_iff]
          exact e
        rw [this]
        rfl
      | cons c r => exact ⟨c, r, rfl⟩
    have hh : hd1 w = ⟨#[c]⟩ := by
      unfold hd1
      rw [hcr]
    rw [hh] at q
    walk_at "s"
    refine x_ixC (c := c) hw (by rw [hcr]; exact atI_nat (j := 0) rfl) ?_
    walk_at "s"
    exact q.go T

/-! ### read -/
inductive NoS (H : Hp) : V → Prop where
  | int (i : Int) : NoS H (.int i)
  | bl (b : Bool) : NoS H (.bl b)
  | non : NoS H .non
  | lst {a : Addr} {xs : List V} (e : H a = some (.lst xs)) : NoS H (.ref a)
  | tup {a : Addr} {xs : List V} (e : H a = some (.tup xs)) : NoS H (.ref a)
theorem NoS.mono {H H' : Hp} {x : V} (k : NoS H x) (s : Same H H') : NoS H' x := by
  cases k with
  | int i => exact .int i
  | bl b => exact .bl b
  | non => exact .non
  | lst e => exact .lst (s _ _ e)
  | tup e => exact .tup (s _ _ e)
theorem NoS.ty {K : PySem.W.Frag} {H : Hp} {x : V} (k : NoS H x) : ∃ t, TyX K H x (.type t) ∧ kitB t "str" = some false := by
  cases k with
  | int i => exact ⟨"int", .base (.int i), by decide +kernel⟩
  | bl b => exact ⟨"bool", .base (.bl b), by decide +kernel⟩
  | non => exact ⟨"NoneType", .base .non, by decide +kernel⟩
  | lst e => exact ⟨"list", .base (.lst e), by decide +kernel⟩
  | tup e => exact ⟨"tuple", .base (.tup e), by decide +kernel⟩
def wval (w : Str) : Nat := NumText.digitsVal w.cps.toList
theorem sig_digits : ∀ c ∈ SIG.cps.toList, 48 ≤ c ∧ c ≤ 57 := by decide +kernel
theorem str_nil {w : Str} (e : w.cps.toList = []) : w = "" := by
  obtain ⟨cp⟩ := w
  have : cp = #[] := by
    rw [← Array.toList_eq_nil_iff]
    exact e
  rw [this]
  rfl
theorem fig_int {w : Str} (h : figsB w = true) (hl : w.length ≤ 640) : PySem.intText? w = some ((wval w : Nat) : Int) := by
  unfold figsB at h
  rw [Bool.and_eq_true] at h
  obtain ⟨h1, h2⟩ := h
  refine PySem.intText_digits (fun c hc => sig_digits c (of_decide_eq_true (List.all_eq_true.mp h1 c hc))) (fun e => ?_) (by omega)
  have := str_nil e
  subst this
  revert h2
  decide +kernel
theorem le_sum : ∀ {l : List Nat} {x : Nat}, x ∈ l → x ≤ l.sum
  | [], _, h => nomatch h
  | y :: l, x, h => by
    rw [List.sum_cons]
    rcases List.mem_cons.mp h with rfl | h
    · omega
    · have := le_sum h
      omega
def wordsOf (line : Str) : List Str := Txt.split line "."
theorem words_len {line w : Str} (h : w ∈ wordsOf line) : w.length ≤ line.length := by
  have h1 := PyProof.Rows.split_weight line "." (by decide)
  have h2 := le_sum (List.mem_map_of_mem (f := fun x : Str => x.length) h)
  have h3 : 1 ≤ (Txt.split line ".").length := List.length_pos_of_mem h
  have h4 : (List.map (fun x : Str => x.length) (wordsOf line)).sum = (List.map (·.length) (Txt.split line ".")).sum := rfl
  have h5 : (fun x : Str => x.length) w = w.length := rfl
  omega
theorem words_many (line : Str) : (wordsOf line).length ≤ line.length + 1 := by
  have h1 := PyProof.Rows.split_weight line "." (by decide)
  show (Txt.split line ".").length ≤ _
  omega
def rowOf (line : Str) : List Nat := (wordsOf line).reverse.map wval
def somes (l : List Nat) : List (Option Int) := l.map fun (n : Nat) => some (n : Int)
def readB (b : Nat) (line : Str) : Bool := decide (line = "0") || ((wordsOf line).all figsB && rowB b (somes (rowOf line)))
def readL (line : Str) : List Nat := if line = "0" then [] else rowOf line
def spReadE (K : PySem.W.Frag) : Sp := fun vs H Q E => ∃ (x y : V), vs = [x, y] ∧ GateB K H x E fun b => (NoS H y ∧ RaiseE K E "NoRow" H) ∨ (∃ line : Str, y = .str line ∧ line.length ≤ 640 ∧ (readB b line = false → RaiseE K E "NoRow" H) ∧ (readB b line = true → RetL (iv (readL line)) H Q))
abbrev s_read : Stmt := topS 56
theorem sc_read : FnScope ["base", "line", "row", "word"] ["base", "line"] (defScope s_read) := ⟨rfl, rfl, rfl, by decide +kernel, rfl, by decide +kernel, by decide +kernel⟩
theorem ok_read_X {P : Program} {w : World} {K : PySem.W.Frag} {mg : Str → Option Value} {base : Heap} (D : Dfn K mg "read" s_read) (m_reversed : mg "reversed" = none) (m_str : mg "str" = none) (m_int : mg "int" = none) (m_isinstance : mg "isinstance" = none) (X_NoRow : Exc1 K mg "NoRow") (CX_need_base : Cal P w K mg base (L2.CX P w) "need_base" 3 ["base"] (spNeedBaseX K)) (C_is_figures : Cal P w K mg base CX0 "is_figures" 1 (["word"]) spIsFigures) (C_is_row : Cal P w K mg base CX0 "is_row" 5 ["base", "row"] spIsRow) : Cal P w K mg base (L2.CX P w) "read" 7 (["base", "line"]) (spReadE K) := by
  refine calX D sc_read (fun _ _ _ _ _ _ us hl => match us, hl with | [_, _], _ => rfl) (fun vs H Q E h => ?_) (fun f cdv A outer s H vs Q E hr h => ?_)
  · obtain ⟨x, y, rfl, _⟩ := h
    rfl
  obtain ⟨x, y, rfl, hg⟩ := h
  refine ⟨_, (pss_cons (ps_expr (pcE CX_need_base hr (takes_of rfl rfl rfl rfl) (pa_cons (pv 0) pa_nil)))
      (pss_cons (ps_if (pt_not (pt_val (pe_callB call_isi (by rfl) m_isinstance (by decide +kernel) (pa_cons (pv 1) (pa_cons (pe_bltn (v := .ty "str") (by rfl) m_str (by decide +kernel) rfl) pa_nil))))) (pss_one (raise1 X_NoRow rfl (takes_of rfl rfl rfl rfl) rfl)) pss_nil)
      (pss_cons (ps_if (pt_cmpR op_eq (pv 1) pe_str (nomark _)) (pss_one (ps_ret (pe_lst pa_nil))) pss_nil)
      (pss_cons (ps_set (i := 2) sc_read.nd rfl (Or.inl rfl) (pe_lst pa_nil))
      (pss_cons (ps_for (passes_of rfl) rfl (pi_reversed (by rfl) m_reversed (pa_cons (pe_splitN (pv 1) pe_str) pa_nil)) (pg_name (i := 3) sc_read.nd rfl (Or.inl rfl)) (pss_cons (ps_if (pt_not (pt_val (pc C_is_figures hr (pa_cons (pv 3) pa_nil)))) (pss_one (raise1 X_NoRow rfl (takes_of rfl rfl rfl rfl) rfl)) pss_nil)
      (pss_one (ps_expr (pe_bm PySem.F.plainAttrs_list PySem.F.slot_list_append PySem.F.type_list_append mt_append (pv 2) (pa_cons (pe_callTy call_intS (by rfl) m_int (by decide +kernel) (pa_cons (pv 3) pa_nil)) pa_nil))))))
      (pss_cons (ps_if (pt_not (pt_val (pc C_is_row hr (pa_cons (pv 0) (pa_cons (pv 2) pa_nil))))) (pss_one (raise1 X_NoRow rfl (takes_of rfl rfl rfl rfl) rfl)) pss_nil)
      (pss_one (ps_ret (pv 2))))))))), ?_⟩
  show tSeq _ _ _ [some x, some y, none, none] H
  have T := Trk.nil H
  rcases hg with ⟨o, hk, e, hE⟩ | ⟨b, rfl, hb, hg⟩
  · walk_at "s"
    exact nbBad T hk e hE
  walk_at "s"
  refine nbOk hb (t_retV T fun _ T => ?_)
  walk_at "s"
  rcases hg with ⟨hk, hE⟩ | ⟨line, rfl, hl, q2, q⟩
  · obtain ⟨t, ty, kb⟩ := (hk.mono T.same).ty (K := K)
    refine x_isi ty kb ?_
    walk_at "s"
    exact hE _ T.same
  refine x_isi (b := true) (.base (.str line)) (by decide +kernel) ?_
  walk_at "s"
  unfold readB at q q2
  unfold readL at q
  by_cases h0 : line = "0"
  · refine ifT (decide_eq_true h0) ?_
    rw [decide_eq_true h0, if_pos h0, Bool.true_or] at q
    walk_at "s"
    refine t_new T (Nat.le_of_ble_eq_true rfl) fun d T => ?_
    exact (q rfl).go T 0 rfl
  refine ifF (decide_eq_false h0) ?_
  rw [decide_eq_false h0, if_neg h0, Bool.false_or] at q
  rw [decide_eq_false h0, Bool.false_or] at q2
  walk_at "s"
  refine t_new T (Nat.le_of_ble_eq_true rfl) fun d T => ?_
  walk_at "s"
  refine x_split (by decide) (by omega) fun c hc => ?_
  have T := T.lay (o := .lst ((wordsOf line).map V.str)) hc
  have hwl : ∀ w ∈ wordsOf line, w.length ≤ 640 := fun w hw => Nat.le_trans (words_len hw) hl
  have hwm := words_many line
  walk_at "s"
  refine RT.for_Itv (xs := (wordsOf line).map V.str) (fun i σ' H' => (∃ y, σ' = [some (.int (b : Int)), some (.str line), some (.ref d), y]) ∧ ((wordsOf line).reverse.take i).all figsB = true ∧ Trk H H' [(c, .lst ((wordsOf line).map V.str)), (d, .lst (iv (((wordsOf line).reverse.take i).map wval)))]) ⟨⟨none, rfl⟩, by rw [List.take_zero]; rfl, T⟩ ?_ ?_ ?_
  · rintro i σ' H' ⟨_, _, T⟩
    exact SqL.of (T.get (i := 0) rfl)
  · clear T
    rintro i v σ' H' hi hx ⟨⟨y, rfl⟩, hall, T⟩
    rw [List.length_map] at hi hx
    obtain ⟨wd, hw, rfl⟩ : ∃ wd, (wordsOf line)[(wordsOf line).length - 1 - i]? = some wd ∧ v = .str wd := by
      rw [List.getElem?_map] at hx
      cases e : (wordsOf line)[(wordsOf line).length - 1 - i]? with
      | none =>
        rw [e] at hx
        cases hx
      | some wd =>
        rw [e] at hx
        exact ⟨wd, rfl, (Option.some.inj hx).symm⟩
    have hmem := List.mem_of_getElem? hw
    have hr : (wordsOf line).reverse[i]? = some wd := by
      rw [List.getElem?_reverse hi]
      exact hw
    have hwd := hwl wd hmem
    walk_at "s"
    refine ⟨wd, rfl, by omega, t_retV T fun _ T => ?_⟩
    cases hf : figsB wd with
    | false =>
      walk_at "s"
      refine q2 ?_ _ T.same
      have : (wordsOf line).all figsB = false := by
        cases hq : (wordsOf line).all figsB with
        | false => rfl
        | true =>
          have h2 := List.all_eq_true.mp hq wd hmem
          rw [hf] at h2
          cases h2
      rw [this, Bool.false_and]
    | true =>
      walk_at "s"
      refine x_intS (fig_int hf hwd) hwd ?_
      walk_at "s"
      refine t_app (i := 1) T (by exact rfl) (by rw [iv_length, List.length_map, List.length_take, List.length_reverse]; omega) fun T => ?_
      walk_at "s"
      refine ⟨⟨_, rfl⟩, ?_, ?_⟩
      · rw [List.take_add_one, hr, List.all_append, hall]
        show (true && (figsB wd && true)) = true
        rw [hf]
        rfl
      · rw [List.take_add_one, hr, List.map_append, iv_append]
        exact T
  · clear T
    rintro σ' H' ⟨⟨y, rfl⟩, hall, T⟩
    rw [List.take_of_length_le (by rw [List.length_map, List.length_reverse]; exact Nat.le_refl _)] at hall T
    have hall2 : (wordsOf line).all figsB = true := by
      rw [← List.all_reverse]
      exact hall
    rw [hall2, Bool.true_and] at q q2
    walk_at "s"
    refine ⟨b, _, _, rfl, hb, .inl ⟨d, _, _, rfl, by walk_at "fact", paired_iv _, by rw [List.length_map, List.length_map, List.length_reverse]; omega, rfl⟩, t_retV T fun _ T => ?_⟩
    cases hrb : rowB b (somes (rowOf line)) with
    | false =>
      refine x_bl ?_
      refine ifT (show (!rowB b (somes (rowOf line))) = true by rw [hrb]; rfl) ?_
      walk_at "s"
      exact q2 hrb _ T.same
    | true =>
      refine x_bl ?_
      refine ifF (show (!rowB b (somes (rowOf line))) = false by rw [hrb]; rfl) ?_
      walk_at "s"
      exact (q hrb).go T 1 rfl

def numS (n : Nat) : Str := Str.ofString (toString ((n : Nat) : Int))
def wtext (b n : Nat) : Str := if n = 0 then "0" else Txt.join "." ((digits b n).reverse.map numS)
theorem numS_len {n : Nat} (h : n < 10 ^ 10) : (numS n).length ≤ 10 := by
  have e : (numS n).length = (TL.numL n).length := by
    show (numS n).cps.size = _
    rw [← TL.tl_num n]
    exact Array.length_toList.symm
  rw [e]
  exact TL.numL_len (by decide) h
theorem sum_le : ∀ {l : List Nat} {k : Nat}, (∀ x ∈ l, x ≤ k) → l.sum ≤ l.length * k
  | [], _, _ => Nat.zero_le _
  | x :: l, k, h => by
    have h1 := sum_le (l := l) (k := k) fun z hz => h z (List.mem_cons_of_mem _ hz)
    have h2 := h x List.mem_cons_self
    rw [List.sum_cons, List.length_cons, Nat.add_mul]
    omega

abbrev s_written : Stmt := topS 54
theorem sc_written : FnScope ["base", "row", "figure"] ["base", "row"] (defScope s_written) := ⟨rfl, rfl, rfl, by decide +kernel, rfl, by decide +kernel, by decide +kernel⟩

/-! ### written, all that is handed in -/
def spWrittenE (K : PySem.W.Frag) : Sp := fun vs H Q E => ∃ (x y : V), vs = [x, y] ∧ GateB K H x E fun b => GateR K H b y E fun a n => RetAny H Q
theorem ok_written_X {P : Program} {w : World} {K : PySem.W.Frag} {mg : Str → Option Value} {base : Heap} (D : Dfn K mg "written" s_written) (CX_need_base : Cal P w K mg base (L2.CX P w) "need_base" 3 ["base"] (spNeedBaseX K)) (CX_need_row : Cal P w K mg base (L2.CX P w) "need_row" 6 ["base", "row"] (spNeedRowX K)) (m_reversed : mg "reversed" = none) (m_str : mg "str" = none) : Cal P w K mg base (L2.CX P w) "written" 7 (["base", "row"]) (spWrittenE K) := by
  refine calX D sc_written (fun _ _ _ _ _ _ us hl => match us, hl with | [_, _], _ => rfl) (fun vs H Q E h => ?_) (fun f cdv A outer s H vs Q E hr h => ?_)
  · obtain ⟨x, y, rfl, _⟩ := h
    rfl
  obtain ⟨x, y, rfl, hg⟩ := h
  refine ⟨_, (pss_cons (ps_expr (pcE CX_need_base hr (takes_of rfl rfl rfl rfl) (pa_cons (pv 0) pa_nil)))
      (pss_cons (ps_expr (pcE CX_need_row hr (takes_of rfl rfl rfl rfl) (pa_cons (pv 0) (pa_cons (pv 1) pa_nil))))
      (pss_cons (ps_if (pt_cmpR (op_eqD hr.units) (pv 1) (pe_lst pa_nil) (nomark _)) (pss_one (ps_ret pe_str)) pss_nil)
      (pss_one (ps_ret (pe_joinN pe_str (pe_lc (own := [("figure", 2)]) (g := gName 2) (tt := tYes) rfl sc_written.nd (pi_reversed (by rfl) m_reversed (pa_cons (pv 1) pa_nil)) (blkOk_by (N := ["base", "row", "figure"]) (sc := defScope s_written) (by decide +kernel)) (fun _ _ _ _ _ => pg_name (i := 2) sc_written.nd rfl (Or.inl rfl)) (fun _ _ _ _ _ => pts_nil) (fun _ _ _ _ _ => (pe_callTy call_strI (by rfl) m_str (by decide +kernel) (pa_cons (pv 2) pa_nil)))))))))), ?_⟩
  show tSeq _ _ _ (L2.start (["base", "row", "figure"]) [x, y]) H
  have T := Trk.nil H
  show tSeq _ _ _ [some x, some y, none] H
  rcases hg with ⟨o, hk, e, hE⟩ | ⟨b, rfl, hb, hg⟩
  · walk_at "s"
    exact nbBad T hk e hE
  walk_at "s"
  refine nbOk hb (t_retV T fun _ T => ?_)
  rcases hg with ⟨hk, hE⟩ | ⟨a, n, rfl, ha, hn, hg⟩
  · walk_at "s"
    exact nrBad T hb hk hE
  walk_at "s"
  refine nrOk hb (T.up ha) hn (t_retV T fun _ T => ?_)
  have q := hg
  walk_at "s"
  walk_at "s"
  refine t_new T (Nat.le_of_ble_eq_true rfl) fun d T => ?_
  walk_at "s"
  refine x_eqL (l := digits b n) (m := []) (T.up ha) (by walk_at "fact") ?_
  walk_at "s"
  by_cases hz : n = 0
  · refine ifT (decide_eq_true ((digits_nil hb.1).mpr hz)) ?_
    walk_at "s"
    exact q _ _ T.same
  refine ifF (decide_eq_false fun z => hz ((digits_nil hb.1).mp z)) ?_
  walk_at "s"
  intro e he
  have T := T.lay (o := .lst []) he
  have lt := digits_lt hb.1 n
  have e1 : (dig b n).length = (digits b n).length := iv_length _
  refine lc_Itv (xs := dig b n) (fun i H' => Trk H H' [(e, .lst (((digits b n).reverse.map numS).take i |>.map V.str))]) (T.take 1) ?_ ?_ ?_
  · intro i H' T
    exact SqL.of (T.up ha)
  · intro i v H' hi hx T
    obtain ⟨u, hu, rfl⟩ := iv_at hx
    have hub := lt.get hu
    rw [e1] at hi hu
    have hr2 : ((digits b n).reverse.map numS)[i]? = some (numS u) := by
      rw [List.getElem?_map, List.getElem?_reverse hi, hu]
      rfl
    show gName 2 _ [some (.int (b : Int)), some (.ref a), none] _ _
    walk_at "s"
    refine ⟨rfl, ?_⟩
    walk_at "s"
    refine x_strI (by omega) ?_
    refine ⟨_, T.get (i := 0) rfl, Nat.lt_of_lt_of_le (show _ < 100000 by rw [List.length_map, List.length_take, List.length_map, List.length_reverse]; omega) (by decide), ?_⟩
    rw [List.take_add_one, hr2, List.map_append]
    exact T.mut 0 rfl
  · intro H' T
    rw [List.take_of_length_le (by rw [List.length_map, List.length_reverse, e1]; exact Nat.le_refl _)] at T
    walk_at "s"
    refine x_join (T.get (i := 0) rfl) ?_ (q _ _ T.same)
    rw [List.map_map, List.length_map, List.length_reverse]
    have hs := sum_le (l := (digits b n).reverse.map ((fun x : Str => x.length) ∘ numS)) (k := 10) (fun x hx => by
      obtain ⟨y, hy, rfl⟩ := List.mem_map.mp hx
      have := lt y (List.mem_reverse.mp hy)
      exact numS_len (by omega))
    rw [List.length_map, List.length_reverse] at hs
    have : (Str.length "." ) = 1 := rfl
    rw [this]
    omega

/-! ### the law's own helpers: a draw, a base -/
abbrev s__law_draw : Stmt := topS 58
theorem sc__law_draw : FnScope ["_law_script", "_law_k"] ["_law_script", "_law_k"] (defScope s__law_draw) := ⟨rfl, rfl, rfl, by decide +kernel, rfl, by decide +kernel, by decide +kernel⟩
def drw (ns : List Int) (k : Int) : Int := ns.getD k.toNat 0
def spDraw (K : PySem.W.Frag) : Sp := fun vs H Q _ => ∃ (a : Addr) (ns : List Int) (k : Int), vs = [.ref a, .int k] ∧ SqL K H a (ns.map V.int) ∧ 0 ≤ k ∧ RetV (.int (drw ns k)) H Q
theorem ok_law_draw {P : Program} {w : World} {K : PySem.W.Frag} {mg : Str → Option Value} {base : Heap} (D : Dfn K mg "_law_draw" s__law_draw) (m_len : mg "len" = none) : Cal P w K mg base CX0 "_law_draw" 1 ["_law_script", "_law_k"] (spDraw K) := by
  refine cal0 D sc__law_draw (fun _ _ _ _ _ _ us hl => match us, hl with | [_, _], _ => rfl) (fun vs H Q E h => ?_) (fun f cdv A outer s H vs Q E hr h => ?_)
  · obtain ⟨a, ns, k, rfl, _⟩ := h
    rfl
  obtain ⟨a, ns, ki, rfl, ha, hk, q⟩ := h
  obtain ⟨k, rfl⟩ : ∃ k : Nat, ki = (k : Int) := ⟨ki.toNat, by omega⟩
  refine ⟨_, (pss_one (ps_ret (pe_ifExp (pt_cmpR op_gt (pe_callB call_len1 (by rfl) m_len PySem.boot_len (pa_cons (pv 0) pa_nil)) (pv 1) (nomark _)) (pe_ix ix_list (pv 0) (pv 1) (fun _ _ => rfl)) pe_int))), ?_⟩
  show tRet _ _ [some (.ref a), some (.int (k : Int))] H
  walk_at "s"
  rw [List.length_map]
  refine if2 (fun h1 => ?_) (fun h1 => ?_)
  · have h2 : (k : Int) < (ns.length : Int) := of_decide_eq_true h1
    walk_at "s"
    refine x_ixS (v := .int (ns[k]'(by omega))) ha (atI_nat (by rw [List.getElem?_map, List.getElem?_eq_getElem (by omega)]; rfl)) ?_
    have e : drw ns (k : Int) = ns[k]'(by omega) := by
      unfold drw
      rw [Int.toNat_natCast, List.getD_eq_getElem?_getD, List.getElem?_eq_getElem (by omega)]
      rfl
    rw [e] at q
    exact q H (Same.refl H)
  · have h2 : ¬ (k : Int) < (ns.length : Int) := of_decide_eq_false h1
    walk_at "s"
    have e : drw ns (k : Int) = 0 := by
      unfold drw
      rw [Int.toNat_natCast, List.getD_eq_getElem?_getD, List.getElem?_eq_none (by omega)]
      rfl
    rw [e] at q
    exact q H (Same.refl H)

/-! the law's walk -/
local macro_rules | `(tactic| walk_at "len") => `(tactic| first
  | omega
  | assumption
  | (simp only [dig, iv_length, iv_append, List.length_append, List.length_cons, List.length_nil, List.length_replicate, List.length_map, List.length_reverse, List.length_take, List.length_drop]; omega))
local macro_rules | `(tactic| walk_at "l0") => `(tactic| first
  | walk_at "s0"
  | with_reducible refine x_if ?_
  | refine t_new ‹_› (Nat.le_of_ble_eq_true rfl) fun _ _ => ?_
  | refine t_tup ‹_› (Nat.le_of_ble_eq_true rfl) fun _ _ => ?_
  | ((with_reducible show rList1 _ _ _ _); refine t_list ‹_› (by walk_at "fact") fun _ _ => ?_)
  | ((with_reducible refine' x_ix ?k1 ?k2 ?_); (case k1 => walk_at "fact"); (case k2 => first | exact atI_nat (j := 0) rfl | exact atI_nat (j := 1) rfl))
  | ((with_reducible show spDraw _ _ _ _ _); refine ⟨_, _, _, rfl, Trk.sq ‹_› ‹_›, by omega, t_retV ‹_› fun _ _ => ?_⟩)
  | ((with_reducible show spIsNumber _ _ _ _); refine ⟨_, rfl, t_retV ‹_› fun _ _ => ?_⟩)
  | ((with_reducible show spLawNumber _ _ _ _); refine ⟨_, _, _, rfl, ‹_›, by walk_at "fact", t_retV ‹_› fun _ _ => ?_⟩)
  | ((with_reducible show spSame _ _ _ _); refine ⟨_, _, _, rfl, by walk_at "fact", by walk_at "fact", by walk_at "len", t_retV ‹_› fun _ _ => ?_⟩)
  | ((with_reducible show rAppend _ _ _ _); first
    | refine t_app (i := 0) ‹_› (by exact rfl) (by walk_at "len") fun _ => ?_
    | refine t_app (i := 1) ‹_› (by exact rfl) (by walk_at "len") fun _ => ?_
    | refine t_app (i := 2) ‹_› (by exact rfl) (by walk_at "len") fun _ => ?_
    | refine t_app (i := 3) ‹_› (by exact rfl) (by walk_at "len") fun _ => ?_
    | refine t_app (i := 4) ‹_› (by exact rfl) (by walk_at "len") fun _ => ?_
    | refine t_app (i := 5) ‹_› (by exact rfl) (by walk_at "len") fun _ => ?_
    | refine t_app (i := 6) ‹_› (by exact rfl) (by walk_at "len") fun _ => ?_
    | refine t_app (i := 7) ‹_› (by exact rfl) (by walk_at "len") fun _ => ?_
    | refine t_app (i := 8) ‹_› (by exact rfl) (by walk_at "len") fun _ => ?_
    | refine t_app (i := 9) ‹_› (by exact rfl) (by walk_at "len") fun _ => ?_))
local macro_rules | `(tactic| walk_at "l1") => `(tactic| first | with_reducible refine x_seq ?_ | walk_at "l0")
local macro_rules | `(tactic| walk_at "le") => `(tactic| repeat (walk_at "l0"))
local macro_rules | `(tactic| walk_at "l") => `(tactic| repeat (walk_at "l1"))

/-! ### one call of any of the functions -/
def CallG (K : PySem.W.Frag) (H : Hp) (wh : Int) (x y z t : V) (E : XK) (Q : VK) : Prop :=
  (wh = 0 ∧ spNumberOfE K [x, y] H Q E) ∨
  (wh = 1 ∧ spAddedE K [x, y, z] H Q E) ∨
  (wh = 2 ∧ spTakenE K [x, y, z] H Q E) ∨
  (wh = 3 ∧ spScaledE K [x, y, t] H Q E) ∨
  (wh = 4 ∧ spShiftedE K [x, y, t] H Q E) ∨
  (wh = 5 ∧ spSlowE K [x, y, z] H Q E) ∨
  (wh = 6 ∧ spProductE K [x, y, z, t] H Q E) ∨
  (wh = 7 ∧ spEffortE K [x, y, z, t] H Q E) ∨
  (wh = 8 ∧ spPartedE K [x, y, t] H Q E) ∨
  (wh = 9 ∧ spDividedE K [x, y, z] H Q E) ∨
  (wh = 10 ∧ spLadderE K [x, y, z] H Q E) ∨
  (wh = 11 ∧ spTurnedE K [x, y, t] H Q E) ∨
  (wh = 12 ∧ spWrittenE K [x, y] H Q E) ∨
  (wh = 13 ∧ spIsRowE K [x, y] H Q E) ∨
  (wh = 14 ∧ spIsFigureE K [x, t] H Q E) ∨
  (wh = 15 ∧ spRowOfE K [x, t] H Q E) ∨
  (wh = 16 ∧ spReadE K [x, t] H Q E)
abbrev s__law_call : Stmt := topS 59
theorem sc__law_call : FnScope ["_law_which", "_law_base", "_law_one", "_law_other", "_law_third_here"] ["_law_which", "_law_base", "_law_one", "_law_other", "_law_third_here"] (defScope s__law_call) := ⟨rfl, rfl, rfl, by decide +kernel, rfl, by decide +kernel, by decide +kernel⟩
def spLawCall (K : PySem.W.Frag) : Sp := fun vs H Q E => ∃ (wh : Int) (x y z t : V), vs = [.int wh, x, y, z, t] ∧ CallG K H wh x y z t E Q
set_option maxHeartbeats 4000000 in
theorem ok_law_call_X {P : Program} {w : World} {K : PySem.W.Frag} {mg : Str → Option Value} {base : Heap} (D : Dfn K mg "_law_call" s__law_call) (CX_number_of : Cal P w K mg base (L2.CX P w) "number_of" 7 (["base", "row"]) (spNumberOfE K)) (CX_added : Cal P w K mg base (L2.CX P w) "added" 7 (["base", "one", "other"]) (spAddedE K)) (CX_taken : Cal P w K mg base (L2.CX P w) "taken" 7 (["base", "one", "other"]) (spTakenE K)) (CX_scaled : Cal P w K mg base (L2.CX P w) "scaled" 7 (["base", "row", "figure"]) (spScaledE K)) (CX_shifted : Cal P w K mg base (L2.CX P w) "shifted" 7 (["base", "row", "places"]) (spShiftedE K)) (CX_slow : Cal P w K mg base (L2.CX P w) "slow" 7 (["base", "one", "other"]) (spSlowE K)) (CX_product : Cal P w K mg base (L2.CX P w) "product" 14 (["base", "one", "other", "least"]) (spProductE K)) (CX_effort : Cal P w K mg base (L2.CX P w) "effort" 13 (["base", "one", "other", "least"]) (spEffortE K)) (CX_parted : Cal P w K mg base (L2.CX P w) "parted" 7 (["base", "row", "figure"]) (spPartedE K)) (CX_divided : Cal P w K mg base (L2.CX P w) "divided" 7 (["base", "one", "other"]) (spDividedE K)) (CX_ladder : Cal P w K mg base (L2.CX P w) "ladder" 7 (["base", "one", "other"]) (spLadderE K)) (CX_turned : Cal P w K mg base (L2.CX P w) "turned" 7 (["base", "row", "other"]) (spTurnedE K)) (CX_written : Cal P w K mg base (L2.CX P w) "written" 7 (["base", "row"]) (spWrittenE K)) (CX_is_row : Cal P w K mg base (L2.CX P w) "is_row" 5 (["base", "row"]) (spIsRowE K)) (CX_is_figure : Cal P w K mg base (L2.CX P w) "is_figure" 4 (["base", "figure"]) (spIsFigureE K)) (CX_row_of : Cal P w K mg base (L2.CX P w) "row_of" 4 (["base", "number"]) (spRowOfE K)) (CX_read : Cal P w K mg base (L2.CX P w) "read" 7 (["base", "line"]) (spReadE K)) : Cal P w K mg base (L2.CX P w) "_law_call" 15 (["_law_which", "_law_base", "_law_one", "_law_other", "_law_third_here"]) (spLawCall K) := by
  refine calX D sc__law_call (fun _ _ _ _ _ _ us hl => match us, hl with | [_, _, _, _, _], _ => rfl) (fun vs H Q E h => ?_) (fun f cdv A outer s H vs Q E hr h => ?_)
  · obtain ⟨wh, x, y, z, t, rfl, _⟩ := h
    rfl
  obtain ⟨wh, x, y, z, t, rfl, h⟩ := h
  refine ⟨_, (pss_cons (ps_if (pt_cmpR op_lt (pv 0) pe_int (nomark _)) (pss_cons (ps_if (pt_cmpR op_eq (pv 0) pe_int (nomark _)) (pss_one (ps_ret (pcE CX_number_of hr (takes_of rfl rfl rfl rfl) (pa_cons (pv 1) (pa_cons (pv 2) pa_nil))))) pss_nil)
      (pss_cons (ps_if (pt_cmpR op_eq (pv 0) pe_int (nomark _)) (pss_one (ps_ret (pcE CX_added hr (takes_of rfl rfl rfl rfl) (pa_cons (pv 1) (pa_cons (pv 2) (pa_cons (pv 3) pa_nil)))))) pss_nil)
      (pss_cons (ps_if (pt_cmpR op_eq (pv 0) pe_int (nomark _)) (pss_one (ps_ret (pcE CX_taken hr (takes_of rfl rfl rfl rfl) (pa_cons (pv 1) (pa_cons (pv 2) (pa_cons (pv 3) pa_nil)))))) pss_nil)
      (pss_cons (ps_if (pt_cmpR op_eq (pv 0) pe_int (nomark _)) (pss_one (ps_ret (pcE CX_scaled hr (takes_of rfl rfl rfl rfl) (pa_cons (pv 1) (pa_cons (pv 2) (pa_cons (pv 4) pa_nil)))))) pss_nil)
      (pss_cons (ps_if (pt_cmpR op_eq (pv 0) pe_int (nomark _)) (pss_one (ps_ret (pcE CX_shifted hr (takes_of rfl rfl rfl rfl) (pa_cons (pv 1) (pa_cons (pv 2) (pa_cons (pv 4) pa_nil)))))) pss_nil)
      (pss_one (ps_ret (pcE CX_slow hr (takes_of rfl rfl rfl rfl) (pa_cons (pv 1) (pa_cons (pv 2) (pa_cons (pv 3) pa_nil))))))))))) pss_nil)
      (pss_cons (ps_if (pt_cmpR op_lt (pv 0) pe_int (nomark _)) (pss_cons (ps_if (pt_cmpR op_eq (pv 0) pe_int (nomark _)) (pss_one (ps_ret (pcE CX_product hr (takes_of rfl rfl rfl rfl) (pa_cons (pv 1) (pa_cons (pv 2) (pa_cons (pv 3) (pa_cons (pv 4) pa_nil))))))) pss_nil)
      (pss_cons (ps_if (pt_cmpR op_eq (pv 0) pe_int (nomark _)) (pss_one (ps_ret (pcE CX_effort hr (takes_of rfl rfl rfl rfl) (pa_cons (pv 1) (pa_cons (pv 2) (pa_cons (pv 3) (pa_cons (pv 4) pa_nil))))))) pss_nil)
      (pss_cons (ps_if (pt_cmpR op_eq (pv 0) pe_int (nomark _)) (pss_one (ps_ret (pcE CX_parted hr (takes_of rfl rfl rfl rfl) (pa_cons (pv 1) (pa_cons (pv 2) (pa_cons (pv 4) pa_nil)))))) pss_nil)
      (pss_cons (ps_if (pt_cmpR op_eq (pv 0) pe_int (nomark _)) (pss_one (ps_ret (pcE CX_divided hr (takes_of rfl rfl rfl rfl) (pa_cons (pv 1) (pa_cons (pv 2) (pa_cons (pv 3) pa_nil)))))) pss_nil)
      (pss_cons (ps_if (pt_cmpR op_eq (pv 0) pe_int (nomark _)) (pss_one (ps_ret (pcE CX_ladder hr (takes_of rfl rfl rfl rfl) (pa_cons (pv 1) (pa_cons (pv 2) (pa_cons (pv 3) pa_nil)))))) pss_nil)
      (pss_one (ps_ret (pcE CX_turned hr (takes_of rfl rfl rfl rfl) (pa_cons (pv 1) (pa_cons (pv 2) (pa_cons (pv 4) pa_nil))))))))))) pss_nil)
      (pss_cons (ps_if (pt_cmpR op_eq (pv 0) pe_int (nomark _)) (pss_one (ps_ret (pcE CX_written hr (takes_of rfl rfl rfl rfl) (pa_cons (pv 1) (pa_cons (pv 2) pa_nil))))) pss_nil)
      (pss_cons (ps_if (pt_cmpR op_eq (pv 0) pe_int (nomark _)) (pss_one (ps_ret (pcE CX_is_row hr (takes_of rfl rfl rfl rfl) (pa_cons (pv 1) (pa_cons (pv 2) pa_nil))))) pss_nil)
      (pss_cons (ps_if (pt_cmpR op_eq (pv 0) pe_int (nomark _)) (pss_one (ps_ret (pcE CX_is_figure hr (takes_of rfl rfl rfl rfl) (pa_cons (pv 1) (pa_cons (pv 4) pa_nil))))) pss_nil)
      (pss_cons (ps_if (pt_cmpR op_eq (pv 0) pe_int (nomark _)) (pss_one (ps_ret (pcE CX_row_of hr (takes_of rfl rfl rfl rfl) (pa_cons (pv 1) (pa_cons (pv 4) pa_nil))))) pss_nil)
      (pss_one (ps_ret (pcE CX_read hr (takes_of rfl rfl rfl rfl) (pa_cons (pv 1) (pa_cons (pv 4) pa_nil))))))))))), ?_⟩
  show tSeq _ _ _ [some (.int wh), some x, some y, some z, some t] H
  rcases h with ⟨rfl, h⟩ | ⟨rfl, h⟩ | ⟨rfl, h⟩ | ⟨rfl, h⟩ | ⟨rfl, h⟩ | ⟨rfl, h⟩ | ⟨rfl, h⟩ | ⟨rfl, h⟩ | ⟨rfl, h⟩ | ⟨rfl, h⟩ | ⟨rfl, h⟩ | ⟨rfl, h⟩ | ⟨rfl, h⟩ | ⟨rfl, h⟩ | ⟨rfl, h⟩ | ⟨rfl, h⟩ | ⟨rfl, h⟩
  all_goals
    repeat (first | walk_at "s1" | with_reducible refine x_if ?_ | refine ifT (by decide) ?_ | refine ifF (by decide) ?_)
    exact h
/-! ### what comes of it, told -/
inductive Oc where
  | ret | baseO | rowO | figureO | countO | belowO | byO
def OutP (K : PySem.W.Frag) (H : Hp) (E : XK) (Q : VK) : Oc → Prop
  | .ret => RetAny H Q
  | .baseO => RaiseE K E "NoBase" H
  | .rowO => RaiseE K E "NoRow" H
  | .figureO => RaiseE K E "NoFigure" H
  | .countO => RaiseE K E "NoCount" H
  | .belowO => RaiseE K E "BelowNought" H
  | .byO => RaiseE K E "ByNought" H
def ocW : Oc → Str
  | .ret => ""
  | .baseO => "base"
  | .rowO => "row"
  | .figureO => "figure"
  | .countO => "count"
  | .belowO => "below"
  | .byO => "by"
abbrev s__law_told : Stmt := topS 60
theorem sc__law_told : FnScope ["_law_which", "_law_base", "_law_one", "_law_other", "_law_third_here", "e", "_law_words"] ["_law_which", "_law_base", "_law_one", "_law_other", "_law_third_here"] (defScope s__law_told) := ⟨rfl, rfl, rfl, by decide +kernel, rfl, by decide +kernel, by decide +kernel⟩
def spTold (K : PySem.W.Frag) : Sp := fun vs H Q _ => ∃ (wh : Int) (x y z t : V) (oc : Oc), vs = [.int wh, x, y, z, t] ∧ (∀ E Q, OutP K H E Q oc → CallG K H wh x y z t E Q) ∧ RetV (.str (ocW oc)) H Q
set_option maxHeartbeats 4000000 in
theorem ok_law_told {P : Program} {w : World} {K : PySem.W.Frag} {mg : Str → Option Value} {base : Heap} (D : Dfn K mg "_law_told" s__law_told) (g_RowError : mg "RowError" = some (.ref (He.ga K "RowError"))) (m_isinstance : mg "isinstance" = none) (m_len : mg "len" = none) (m_ValueError : mg "ValueError" = none) (g_NoBase : mg "NoBase" = some (.ref (He.ga K "NoBase"))) (g_NoRow : mg "NoRow" = some (.ref (He.ga K "NoRow"))) (g_NoFigure : mg "NoFigure" = some (.ref (He.ga K "NoFigure"))) (g_NoCount : mg "NoCount" = some (.ref (He.ga K "NoCount"))) (g_BelowNought : mg "BelowNought" = some (.ref (He.ga K "BelowNought"))) (g_ByNought : mg "ByNought" = some (.ref (He.ga K "ByNought"))) (e_NoBase_RowError : PySem.W.exmOne K (.ref (He.ga K "NoBase")) (.ref (He.ga K "RowError")) = some true) (e_NoRow_RowError : PySem.W.exmOne K (.ref (He.ga K "NoRow")) (.ref (He.ga K "RowError")) = some true) (e_NoFigure_RowError : PySem.W.exmOne K (.ref (He.ga K "NoFigure")) (.ref (He.ga K "RowError")) = some true) (e_NoCount_RowError : PySem.W.exmOne K (.ref (He.ga K "NoCount")) (.ref (He.ga K "RowError")) = some true) (e_BelowNought_RowError : PySem.W.exmOne K (.ref (He.ga K "BelowNought")) (.ref (He.ga K "RowError")) = some true) (e_ByNought_RowError : PySem.W.exmOne K (.ref (He.ga K "ByNought")) (.ref (He.ga K "RowError")) = some true) (i_NoBase : ExcC K (He.ga K "NoBase")) (i_NoRow : ExcC K (He.ga K "NoRow")) (i_NoFigure : ExcC K (He.ga K "NoFigure")) (i_NoCount : ExcC K (He.ga K "NoCount")) (i_BelowNought : ExcC K (He.ga K "BelowNought")) (i_ByNought : ExcC K (He.ga K "ByNought")) (kt_NoBase_ValueError : PySem.W.kitOne K (.ref (He.ga K "NoBase")) (.type "ValueError") = some true) (kt_NoRow_ValueError : PySem.W.kitOne K (.ref (He.ga K "NoRow")) (.type "ValueError") = some true) (kt_NoFigure_ValueError : PySem.W.kitOne K (.ref (He.ga K "NoFigure")) (.type "ValueError") = some true) (kt_NoCount_ValueError : PySem.W.kitOne K (.ref (He.ga K "NoCount")) (.type "ValueError") = some true) (kt_BelowNought_ValueError : PySem.W.kitOne K (.ref (He.ga K "BelowNought")) (.type "ValueError") = some true) (kt_ByNought_ValueError : PySem.W.kitOne K (.ref (He.ga K "ByNought")) (.type "ValueError") = some true) (k_NoBase_NoBase : PySem.W.kitOne K (.ref (He.ga K "NoBase")) (.ref (He.ga K "NoBase")) = some true) (k0_NoBase_NoRow : PySem.W.kitOne K (.ref (He.ga K "NoBase")) (.ref (He.ga K "NoRow")) = some false) (k0_NoBase_NoFigure : PySem.W.kitOne K (.ref (He.ga K "NoBase")) (.ref (He.ga K "NoFigure")) = some false) (k0_NoBase_NoCount : PySem.W.kitOne K (.ref (He.ga K "NoBase")) (.ref (He.ga K "NoCount")) = some false) (k0_NoBase_BelowNought : PySem.W.kitOne K (.ref (He.ga K "NoBase")) (.ref (He.ga K "BelowNought")) = some false) (k0_NoBase_ByNought : PySem.W.kitOne K (.ref (He.ga K "NoBase")) (.ref (He.ga K "ByNought")) = some false) (k0_NoRow_NoBase : PySem.W.kitOne K (.ref (He.ga K "NoRow")) (.ref (He.ga K "NoBase")) = some false) (k_NoRow_NoRow : PySem.W.kitOne K (.ref (He.ga K "NoRow")) (.ref (He.ga K "NoRow")) = some true) (k0_NoRow_NoFigure : PySem.W.kitOne K (.ref (He.ga K "NoRow")) (.ref (He.ga K "NoFigure")) = some false) (k0_NoRow_NoCount : PySem.W.kitOne K (.ref (He.ga K "NoRow")) (.ref (He.ga K "NoCount")) = some false) (k0_NoRow_BelowNought : PySem.W.kitOne K (.ref (He.ga K "NoRow")) (.ref (He.ga K "BelowNought")) = some false) (k0_NoRow_ByNought : PySem.W.kitOne K (.ref (He.ga K "NoRow")) (.ref (He.ga K "ByNought")) = some false) (k0_NoFigure_NoBase : PySem.W.kitOne K (.ref (He.ga K "NoFigure")) (.ref (He.ga K "NoBase")) = some false) (k0_NoFigure_NoRow : PySem.W.kitOne K (.ref (He.ga K "NoFigure")) (.ref (He.ga K "NoRow")) = some false) (k_NoFigure_NoFigure : PySem.W.kitOne K (.ref (He.ga K "NoFigure")) (.ref (He.ga K "NoFigure")) = some true) (k0_NoFigure_NoCount : PySem.W.kitOne K (.ref (He.ga K "NoFigure")) (.ref (He.ga K "NoCount")) = some false) (k0_NoFigure_BelowNought : PySem.W.kitOne K (.ref (He.ga K "NoFigure")) (.ref (He.ga K "BelowNought")) = some false) (k0_NoFigure_ByNought : PySem.W.kitOne K (.ref (He.ga K "NoFigure")) (.ref (He.ga K "ByNought")) = some false) (k0_NoCount_NoBase : PySem.W.kitOne K (.ref (He.ga K "NoCount")) (.ref (He.ga K "NoBase")) = some false) (k0_NoCount_NoRow : PySem.W.kitOne K (.ref (He.ga K "NoCount")) (.ref (He.ga K "NoRow")) = some false) (k0_NoCount_NoFigure : PySem.W.kitOne K (.ref (He.ga K "NoCount")) (.ref (He.ga K "NoFigure")) = some false) (k_NoCount_NoCount : PySem.W.kitOne K (.ref (He.ga K "NoCount")) (.ref (He.ga K "NoCount")) = some true) (k0_NoCount_BelowNought : PySem.W.kitOne K (.ref (He.ga K "NoCount")) (.ref (He.ga K "BelowNought")) = some false) (k0_NoCount_ByNought : PySem.W.kitOne K (.ref (He.ga K "NoCount")) (.ref (He.ga K "ByNought")) = some false) (k0_BelowNought_NoBase : PySem.W.kitOne K (.ref (He.ga K "BelowNought")) (.ref (He.ga K "NoBase")) = some false) (k0_BelowNought_NoRow : PySem.W.kitOne K (.ref (He.ga K "BelowNought")) (.ref (He.ga K "NoRow")) = some false) (k0_BelowNought_NoFigure : PySem.W.kitOne K (.ref (He.ga K "BelowNought")) (.ref (He.ga K "NoFigure")) = some false) (k0_BelowNought_NoCount : PySem.W.kitOne K (.ref (He.ga K "BelowNought")) (.ref (He.ga K "NoCount")) = some false) (k_BelowNought_BelowNought : PySem.W.kitOne K (.ref (He.ga K "BelowNought")) (.ref (He.ga K "BelowNought")) = some true) (k0_BelowNought_ByNought : PySem.W.kitOne K (.ref (He.ga K "BelowNought")) (.ref (He.ga K "ByNought")) = some false) (k0_ByNought_NoBase : PySem.W.kitOne K (.ref (He.ga K "ByNought")) (.ref (He.ga K "NoBase")) = some false) (k0_ByNought_NoRow : PySem.W.kitOne K (.ref (He.ga K "ByNought")) (.ref (He.ga K "NoRow")) = some false) (k0_ByNought_NoFigure : PySem.W.kitOne K (.ref (He.ga K "ByNought")) (.ref (He.ga K "NoFigure")) = some false) (k0_ByNought_NoCount : PySem.W.kitOne K (.ref (He.ga K "ByNought")) (.ref (He.ga K "NoCount")) = some false) (k0_ByNought_BelowNought : PySem.W.kitOne K (.ref (He.ga K "ByNought")) (.ref (He.ga K "BelowNought")) = some false) (k_ByNought_ByNought : PySem.W.kitOne K (.ref (He.ga K "ByNought")) (.ref (He.ga K "ByNought")) = some true) (CX__law_call : Cal P w K mg base (L2.CX P w) "_law_call" 15 (["_law_which", "_law_base", "_law_one", "_law_other", "_law_third_here"]) (spLawCall K)) : Cal P w K mg base CX0 "_law_told" 16 (["_law_which", "_law_base", "_law_one", "_law_other", "_law_third_here"]) (spTold K) := by
  refine cal0 D sc__law_told (fun _ _ _ _ _ _ us hl => match us, hl with | [_, _, _, _, _], _ => rfl) (fun vs H Q E h => ?_) (fun f cdv A outer s H vs Q E hr h => ?_)
  · obtain ⟨wh, x, y, z, t, oc, rfl, _⟩ := h
    rfl
  obtain ⟨wh, x, y, z, t, oc, rfl, hc, q⟩ := h
  refine ⟨_, (pss_cons (ps_tryA (i := 5) ⟨rfl, by decide, .inl g_RowError⟩ rfl rfl sc__law_told.nd rfl rfl takes0 (fun W pn xe tk passT => (pss_one (ps_expr (pcS CX__law_call hr tk (pa_cons (pv 0) (pa_cons (pv 1) (pa_cons (pv 2) (pa_cons (pv 3) (pa_cons (pv 4) pa_nil))))))))) (fun a oe cls d pn hz hf => pss_exc hz fun Dc hC hZ => (pss_cons (ps_set (i := 6) sc__law_told.nd rfl (Or.inl rfl) (pe_lst pa_nil))
      (pss_cons (ps_if (pt_val (pe_callB (call_isE hC hZ hf) (by rfl) m_isinstance (by decide +kernel) (pa_cons (pv 5) (pa_cons (pe_glob (v := .ref (He.ga K "NoBase")) (by rfl) g_NoBase rfl) pa_nil)))) (pss_one (ps_expr (pe_appT (K := K) rfl (pv 6) (pa_cons pe_str pa_nil)))) pss_nil)
      (pss_cons (ps_if (pt_val (pe_callB (call_isE hC hZ hf) (by rfl) m_isinstance (by decide +kernel) (pa_cons (pv 5) (pa_cons (pe_glob (v := .ref (He.ga K "NoRow")) (by rfl) g_NoRow rfl) pa_nil)))) (pss_one (ps_expr (pe_appT (K := K) rfl (pv 6) (pa_cons pe_str pa_nil)))) pss_nil)
      (pss_cons (ps_if (pt_val (pe_callB (call_isE hC hZ hf) (by rfl) m_isinstance (by decide +kernel) (pa_cons (pv 5) (pa_cons (pe_glob (v := .ref (He.ga K "NoFigure")) (by rfl) g_NoFigure rfl) pa_nil)))) (pss_one (ps_expr (pe_appT (K := K) rfl (pv 6) (pa_cons pe_str pa_nil)))) pss_nil)
      (pss_cons (ps_if (pt_val (pe_callB (call_isE hC hZ hf) (by rfl) m_isinstance (by decide +kernel) (pa_cons (pv 5) (pa_cons (pe_glob (v := .ref (He.ga K "NoCount")) (by rfl) g_NoCount rfl) pa_nil)))) (pss_one (ps_expr (pe_appT (K := K) rfl (pv 6) (pa_cons pe_str pa_nil)))) pss_nil)
      (pss_cons (ps_if (pt_val (pe_callB (call_isE hC hZ hf) (by rfl) m_isinstance (by decide +kernel) (pa_cons (pv 5) (pa_cons (pe_glob (v := .ref (He.ga K "BelowNought")) (by rfl) g_BelowNought rfl) pa_nil)))) (pss_one (ps_expr (pe_appT (K := K) rfl (pv 6) (pa_cons pe_str pa_nil)))) pss_nil)
      (pss_cons (ps_if (pt_val (pe_callB (call_isE hC hZ hf) (by rfl) m_isinstance (by decide +kernel) (pa_cons (pv 5) (pa_cons (pe_glob (v := .ref (He.ga K "ByNought")) (by rfl) g_ByNought rfl) pa_nil)))) (pss_one (ps_expr (pe_appT (K := K) rfl (pv 6) (pa_cons pe_str pa_nil)))) pss_nil)
      (pss_one (ps_ret (pe_ifExp (PW.pt (pw_and (pt_cmpR op_eq (pe_callB (call_len1T (K := K) rfl) (by rfl) m_len PySem.boot_len (pa_cons (pv 6) pa_nil)) pe_int (nomark _)) (pw_and1 (pt_val (pe_callB (call_isE hC hZ hf) (by rfl) m_isinstance (by decide +kernel) (pa_cons (pv 5) (pa_cons (pe_bltn (v := .ty "ValueError") (by rfl) m_ValueError (by decide +kernel) rfl) pa_nil))))))) (pe_ix (ix_listT (K := K) rfl) (pv 6) pe_int (fun _ _ => rfl)) pe_str))))))))))))
      (pss_one (ps_ret pe_str))), ?_⟩
  show tSeq _ _ _ [some (.int wh), some x, some y, some z, some t, none, none] H
  walk_at "s"
  refine x_tryA ?_
  walk_at "s"
  refine x_callS ?_
  walk_at "s"
  refine ⟨wh, x, y, z, t, rfl, hc _ _ ?_⟩
  cases oc with
  | ret =>
    intro v H' s
    walk_at "s"
    exact q _ s
  | baseO =>
    intro H' s
    refine w_as e_NoBase_RowError fun a _ => x_exc i_NoBase ?_
    have T := (Trk.nil H).call s
    walk_at "s"
    refine t_new T (Nat.le_of_ble_eq_true rfl) fun d T => ?_
    walk_at "s"
    refine x_isE k_NoBase_NoBase rel_ref ?_
    walk_at "s"
    refine t_app (i := 0) T (by exact rfl) (by decide) fun T => ?_
    walk_at "s"
    refine x_isE k0_NoBase_NoRow rel_ref ?_
    walk_at "s"
    refine x_isE k0_NoBase_NoFigure rel_ref ?_
    walk_at "s"
    refine x_isE k0_NoBase_NoCount rel_ref ?_
    walk_at "s"
    refine x_isE k0_NoBase_BelowNought rel_ref ?_
    walk_at "s"
    refine x_isE k0_NoBase_ByNought rel_ref ?_
    walk_at "s"
    refine ifT (by decide) ?_
    walk_at "s"
    refine x_isE kt_NoBase_ValueError rel_ty ?_
    walk_at "s"
    refine x_ix (by walk_at "fact") (atI_nat (j := 0) rfl) ?_
    exact q.go T
  | rowO =>
    intro H' s
    refine w_as e_NoRow_RowError fun a _ => x_exc i_NoRow ?_
    have T := (Trk.nil H).call s
    walk_at "s"
    refine t_new T (Nat.le_of_ble_eq_true rfl) fun d T => ?_
    walk_at "s"
    refine x_isE k0_NoRow_NoBase rel_ref ?_
    walk_at "s"
    refine x_isE k_NoRow_NoRow rel_ref ?_
    walk_at "s"
    refine t_app (i := 0) T (by exact rfl) (by decide) fun T => ?_
    walk_at "s"
    refine x_isE k0_NoRow_NoFigure rel_ref ?_
    walk_at "s"
    refine x_isE k0_NoRow_NoCount rel_ref ?_
    walk_at "s"
    refine x_isE k0_NoRow_BelowNought rel_ref ?_
    walk_at "s"
    refine x_isE k0_NoRow_ByNought rel_ref ?_
    walk_at "s"
    refine ifT (by decide) ?_
    walk_at "s"
    refine x_isE kt_NoRow_ValueError rel_ty ?_
    walk_at "s"
    refine x_ix (by walk_at "fact") (atI_nat (j := 0) rfl) ?_
    exact q.go T
  | figureO =>
    intro H' s
    refine w_as e_NoFigure_RowError fun a _ => x_exc i_NoFigure ?_
    have T := (Trk.nil H).call s
    walk_at "s"
    refine t_new T (Nat.le_of_ble_eq_true rfl) fun d T => ?_
    walk_at "s"
    refine x_isE k0_NoFigure_NoBase rel_ref ?_
    walk_at "s"
    refine x_isE k0_NoFigure_NoRow rel_ref ?_
    walk_at "s"
    refine x_isE k_NoFigure_NoFigure rel_ref ?_
    walk_at "s"
    refine t_app (i := 0) T (by exact rfl) (by decide) fun T => ?_
    walk_at "s"
    refine x_isE k0_NoFigure_NoCount rel_ref ?_
    walk_at "s"
    refine x_isE k0_NoFigure_BelowNought rel_ref ?_
    walk_at "s"
    refine x_isE k0_NoFigure_ByNought rel_ref ?_
    walk_at "s"
    refine ifT (by decide) ?_
    walk_at "s"
    refine x_isE kt_NoFigure_ValueError rel_ty ?_
    walk_at "s"
    refine x_ix (by walk_at "fact") (atI_nat (j := 0) rfl) ?_
    exact q.go T
  | countO =>
    intro H' s
    refine w_as e_NoCount_RowError fun a _ => x_exc i_NoCount ?_
    have T := (Trk.nil H).call s
    walk_at "s"
    refine t_new T (Nat.le_of_ble_eq_true rfl) fun d T => ?_
    walk_at "s"
    refine x_isE k0_NoCount_NoBase rel_ref ?_
    walk_at "s"
    refine x_isE k0_NoCount_NoRow rel_ref ?_
    walk_at "s"
    refine x_isE k0_NoCount_NoFigure rel_ref ?_
    walk_at "s"
    refine x_isE k_NoCount_NoCount rel_ref ?_
    walk_at "s"
    refine t_app (i := 0) T (by exact rfl) (by decide) fun T => ?_
    walk_at "s"
    refine x_isE k0_NoCount_BelowNought rel_ref ?_
    walk_at "s"
    refine x_isE k0_NoCount_ByNought rel_ref ?_
    walk_at "s"
    refine ifT (by decide) ?_
    walk_at "s"
    refine x_isE kt_NoCount_ValueError rel_ty ?_
    walk_at "s"
    refine x_ix (by walk_at "fact") (atI_nat (j := 0) rfl) ?_
    exact q.go T
  | belowO =>
    intro H' s
    refine w_as e_BelowNought_RowError fun a _ => x_exc i_BelowNought ?_
    have T := (Trk.nil H).call s
    walk_at "s"
    refine t_new T (Nat.le_of_ble_eq_true rfl) fun d T => ?_
    walk_at "s"
    refine x_isE k0_BelowNought_NoBase rel_ref ?_
    walk_at "s"
    refine x_isE k0_BelowNought_NoRow rel_ref ?_
    walk_at "s"
    refine x_isE k0_BelowNought_NoFigure rel_ref ?_
    walk_at "s"
    refine x_isE k0_BelowNought_NoCount rel_ref ?_
    walk_at "s"
    refine x_isE k_BelowNought_BelowNought rel_ref ?_
    walk_at "s"
    refine t_app (i := 0) T (by exact rfl) (by decide) fun T => ?_
    walk_at "s"
    refine x_isE k0_BelowNought_ByNought rel_ref ?_
    walk_at "s"
    refine ifT (by decide) ?_
    walk_at "s"
    refine x_isE kt_BelowNought_ValueError rel_ty ?_
    walk_at "s"
    refine x_ix (by walk_at "fact") (atI_nat (j := 0) rfl) ?_
    exact q.go T
  | byO =>
    intro H' s
    refine w_as e_ByNought_RowError fun a _ => x_exc i_ByNought ?_
    have T := (Trk.nil H).call s
    walk_at "s"
    refine t_new T (Nat.le_of_ble_eq_true rfl) fun d T => ?_
    walk_at "s"
    refine x_isE k0_ByNought_NoBase rel_ref ?_
    walk_at "s"
    refine x_isE k0_ByNought_NoRow rel_ref ?_
    walk_at "s"
    refine x_isE k0_ByNought_NoFigure rel_ref ?_
    walk_at "s"
    refine x_isE k0_ByNought_NoCount rel_ref ?_
    walk_at "s"
    refine x_isE k0_ByNought_BelowNought rel_ref ?_
    walk_at "s"
    refine x_isE k_ByNought_ByNought rel_ref ?_
    walk_at "s"
    refine t_app (i := 0) T (by exact rfl) (by decide) fun T => ?_
    walk_at "s"
    refine ifT (by decide) ?_
    walk_at "s"
    refine x_isE kt_ByNought_ValueError rel_ty ?_
    walk_at "s"
    refine x_ix (by walk_at "fact") (atI_nat (j := 0) rfl) ?_
    exact q.go T

abbrev s__law_copy : Stmt := topS 61
theorem sc__law_copy : FnScope ["_law_row"] ["_law_row"] (defScope s__law_copy) := ⟨rfl, rfl, rfl, by decide +kernel, rfl, by decide +kernel, by decide +kernel⟩
def spCopy : Sp := fun vs H Q _ => ∃ (y : V), vs = [y] ∧ ((∃ a xs, y = .ref a ∧ H a = some (.lst xs) ∧ RetL xs H Q) ∨ (NoL H y ∧ RetV y H Q))
theorem ok_law_copy {P : Program} {w : World} {K : PySem.W.Frag} {mg : Str → Option Value} {base : Heap} (D : Dfn K mg "_law_copy" s__law_copy) (m_list : mg "list" = none) (m_isinstance : mg "isinstance" = none) : Cal P w K mg base CX0 "_law_copy" 1 (["_law_row"]) spCopy := by
  refine cal0 D sc__law_copy (fun _ _ _ _ _ _ us hl => match us, hl with | [_], _ => rfl) (fun vs H Q E h => ?_) (fun f cdv A outer s H vs Q E hr h => ?_)
  · obtain ⟨y, rfl, _⟩ := h
    rfl
  obtain ⟨y, rfl, h⟩ := h
  refine ⟨_, (pss_one (ps_ret (pe_ifExp (pt_val (pe_callB call_isi (by rfl) m_isinstance (by decide +kernel) (pa_cons (pv 0) (pa_cons (pe_bltn (v := .ty "list") (by rfl) m_list (by decide +kernel) rfl) pa_nil)))) (pe_callTy call_list1 (by rfl) m_list (by decide +kernel) (pa_cons (pv 0) pa_nil)) (pv 0)))), ?_⟩
  show tRet _ _ [some y] H
  have T := Trk.nil H
  walk_at "s"
  rcases h with ⟨a, xs, rfl, ha, q⟩ | ⟨hn, q⟩
  · refine x_isiL ha ?_
    walk_at "s"
    refine t_list T ha fun p T => ?_
    exact q.go T 0 rfl
  · obtain ⟨t, ty, kb⟩ := hn.ty (K := K)
    refine x_isi ty kb ?_
    walk_at "s"
    exact q.go T
theorem t_disp1 {σ : L2.St} {H0 H : Hp} {L : List (Addr × HO)} {Q : VK} {i : Int} {v : V} (T : Trk H0 H L) (k : ∀ p, Trk H0 (upd (upd H p (.dK [])) p (.dK [(.inl i, v)])) ((p, .dK [(.inl i, v)]) :: L) → Q (.ref p) (upd (upd H p (.dK [])) p (.dK [(.inl i, v)]))) : tDisp [(tC (.int i), tC v)] σ H Q :=
  fun p hp => ⟨upd_same, [(.inl i, v)], rfl, Nat.le_of_ble_eq_true rfl, k p ((T.lay (o := .dK []) hp).mut 0 rfl)⟩
abbrev s__law_bad_row : Stmt := topS 62
theorem sc__law_bad_row : FnScope ["_law_base", "_law_cell", "_law_row"] ["_law_base", "_law_cell"] (defScope s__law_bad_row) := ⟨rfl, rfl, rfl, by decide +kernel, rfl, by decide +kernel, by decide +kernel⟩
def spBadRow : Sp := fun vs H Q _ => ∃ (b : Nat) (ce : Int), vs = [.int (b : Int), .int ce] ∧ (2 ≤ b ∧ b ≤ 1000000) ∧ ∀ y H', Same H H' → RowK H' b y false → Q y H'
theorem rowB_bad {b n j : Nat} {o : Option Int} (hj : j < n) (h : figB b o = false) : rowB b ((List.replicate n (some (1 : Int))).set j o) = false := by
  unfold rowB
  have : ((List.replicate n (some (1 : Int))).set j o).all (figB b) = false := by
    cases hq : ((List.replicate n (some (1 : Int))).set j o).all (figB b) with
    | false => rfl
    | true =>
      have h2 := List.all_eq_true.mp hq o (List.mem_of_getElem? (i := j) (by rw [List.getElem?_set_self (by rw [List.length_replicate]; exact hj)]))
      rw [h] at h2
      cases h2
  rw [this, Bool.false_and]
theorem paired_ones {H : Hp} : ∀ n : Nat, Paired (Kd H) (List.replicate n (V.int 1)) (List.replicate n (some (1 : Int)))
  | 0 => .nil
  | n + 1 => .cons (.int 1) (paired_ones n)
theorem paired_set {H : Hp} {v : V} {o : Option Int} (hk : Kd H v o) : ∀ {xs : List V} {ks : List (Option Int)} (j : Nat), Paired (Kd H) xs ks → Paired (Kd H) (xs.set j v) (ks.set j o)
  | _, _, _, .nil => .nil
  | _, _, 0, .cons _ t => .cons hk t
  | _, _, j + 1, .cons h t => .cons h (paired_set hk j t)
theorem rowK_set {H : Hp} {p : Addr} {b n j : Nat} {v : V} {o : Option Int} (hp : H p = some (.lst ((List.replicate n (V.int 1)).set j v))) (hk : Kd H v o) (hn : n ≤ 1000) (hj : j < n) (h : figB b o = false) : RowK H b (.ref p) false :=
  .inl ⟨p, _, _, rfl, hp, paired_set hk j (paired_ones n), by rw [List.length_set, List.length_replicate]; omega, (rowB_bad hj h).symm⟩
theorem bad_fig {b : Nat} {p1 p2 : Addr} (k : Int) (hk : 0 ≤ k ∧ k < 8) : ∃ v o, atI [V.int (b : Int), .int (-1), .bl true, .str "1", .non, .int ((b : Int) + 5), .ref p1, .ref p2] k = some v ∧ figB b o = false ∧ ∀ HH : Hp, HH p1 = some (.lst [.int 1]) → HH p2 = some (.tup [.int 1]) → Kd HH v o := by
  have h4 : k = 0 ∨ k = 1 ∨ k = 2 ∨ k = 3 ∨ k = 4 ∨ k = 5 ∨ k = 6 ∨ k = 7 := by omega
  have f1 : figB b (some (b : Int)) = false := by
    show (decide (0 ≤ (b : Int)) && decide ((b : Int) < (b : Int))) = false
    rw [decide_eq_false (by omega : ¬ (b : Int) < (b : Int)), Bool.and_false]
  have f2 : figB b (some ((b : Int) + 5)) = false := by
    show (decide (0 ≤ (b : Int) + 5) && decide ((b : Int) + 5 < (b : Int))) = false
    rw [decide_eq_false (by omega : ¬ (b : Int) + 5 < (b : Int)), Bool.and_false]
  rcases h4 with rfl | rfl | rfl | rfl | rfl | rfl | rfl | rfl
  · exact ⟨_, _, atI_nat (j := 0) rfl, f1, fun _ _ _ => .int _⟩
  · exact ⟨_, some (-1), atI_nat (j := 1) rfl, rfl, fun _ _ _ => .int _⟩
  · exact ⟨_, none, atI_nat (j := 2) rfl, rfl, fun _ _ _ => .bl _⟩
  · exact ⟨_, none, atI_nat (j := 3) rfl, rfl, fun _ _ _ => .str _⟩
  · exact ⟨_, none, atI_nat (j := 4) rfl, rfl, fun _ _ _ => .non⟩
  · exact ⟨_, _, atI_nat (j := 5) rfl, f2, fun _ _ _ => .int _⟩
  · exact ⟨_, none, atI_nat (j := 6) rfl, rfl, fun _ h _ => .lst h⟩
  · exact ⟨_, none, atI_nat (j := 7) rfl, rfl, fun _ _ h => .tup h⟩
set_option maxHeartbeats 4000000 in
theorem ok_law_bad_row {P : Program} {w : World} {K : PySem.W.Frag} {mg : Str → Option Value} {base : Heap} (D : Dfn K mg "_law_bad_row" s__law_bad_row) (m_len : mg "len" = none) : Cal P w K mg base CX0 "_law_bad_row" 1 (["_law_base", "_law_cell"]) spBadRow := by
  refine cal0 D sc__law_bad_row (fun _ _ _ _ _ _ us hl => match us, hl with | [_, _], _ => rfl) (fun vs H Q E h => ?_) (fun f cdv A outer s H vs Q E hr h => ?_)
  · obtain ⟨b, ce, rfl, _⟩ := h
    rfl
  obtain ⟨b, ce, rfl, hb, q⟩ := h
  refine ⟨_, (pss_cons (ps_if (pt_cmpR op_lt (pe_op op_mod (pv 1) pe_int) pe_int (nomark _)) (pss_one (ps_ret (pe_ix ix_list (pe_lst (pa_cons (pe_tup (pa_cons pe_int pa_nil)) (pa_cons pe_non (pa_cons (pe_lst (pa_cons pe_int pa_nil)) (pa_cons (pe_lst (pa_cons pe_int (pa_cons pe_int pa_nil))) (pa_cons pe_int (pa_cons pe_str (pa_cons (pe_disp (pps_cons pe_int pe_int pps_nil) rfl rfl (fun h => nomatch h) (by decide)) pa_nil)))))))) (pe_op op_mod (pv 1) pe_int) (fun _ _ => rfl)))) pss_nil)
      (pss_cons (ps_set (i := 2) sc__law_bad_row.nd rfl (Or.inl rfl) (pe_op op_rep (pe_lst (pa_cons pe_int pa_nil)) (pe_op op_add pe_int (pe_op op_mod (pe_op op_fdiv (pv 1) pe_int) pe_int))))
      (pss_cons (ps_asg (pe_ix ix_list (pe_lst (pa_cons (pv 0) (pa_cons (pe_un un_neg pe_int) (pa_cons pe_bl (pa_cons pe_str (pa_cons pe_non (pa_cons (pe_op op_add (pv 0) pe_int) (pa_cons (pe_lst (pa_cons pe_int pa_nil)) (pa_cons (pe_tup (pa_cons pe_int pa_nil)) pa_nil))))))))) (pe_op op_mod (pe_op op_fdiv (pv 1) pe_int) pe_int) (fun _ _ => rfl)) (pg_sub (pv 2) (pe_op op_mod (pe_op op_fdiv (pv 1) pe_int) (pe_callB call_len1 (by rfl) m_len PySem.boot_len (pa_cons (pv 2) pa_nil))) set_list))
      (pss_one (ps_ret (pv 2)))))), ?_⟩
  show tSeq _ _ _ [some (.int (b : Int)), some (.int ce), none] H
  have T := Trk.nil H
  walk_at "s"
  refine x_I (by decide) ?_
  walk_at "s"
  refine if2 (fun h1 => ?_) (fun h1 => ?_)
  · have h2 : ce % 11 < 7 := of_decide_eq_true h1
    walk_at "s"
    refine t_tup T (Nat.le_of_ble_eq_true rfl) fun p0 T => ?_
    walk_at "s"
    refine t_new T (Nat.le_of_ble_eq_true rfl) fun p2 T => ?_
    walk_at "s"
    refine t_new T (Nat.le_of_ble_eq_true rfl) fun p3 T => ?_
    walk_at "s"
    refine t_disp1 T fun p6 T => ?_
    walk_at "s"
    refine t_new T (Nat.le_of_ble_eq_true rfl) fun p7 T => ?_
    walk_at "s"
    refine x_I (by decide) ?_
    have hz : RowK _ b (.ref p2) false := .inl ⟨p2, [.int 0], [some 0], rfl, T.get (i := 3) rfl, .cons (.int 0) .nil, by decide, (Bool.and_false _).symm⟩
    have ho : RowK _ b (.ref p3) false := .inl ⟨p3, [.int 1, .int 0], [some 1, some 0], rfl, T.get (i := 2) rfl, .cons (.int 1) (.cons (.int 0) .nil), by decide, (Bool.and_false _).symm⟩
    have h3 : 0 ≤ ce % 11 := by omega
    generalize ce % 11 = k at *
    have h4 : k = 0 ∨ k = 1 ∨ k = 2 ∨ k = 3 ∨ k = 4 ∨ k = 5 ∨ k = 6 := by omega
    rcases h4 with rfl | rfl | rfl | rfl | rfl | rfl | rfl
    · exact x_ix (T.get (i := 0) rfl) (atI_nat (j := 0) rfl) (q _ _ T.same (.inr ⟨.tup (T.get (i := 4) rfl), rfl⟩))
    · exact x_ix (T.get (i := 0) rfl) (atI_nat (j := 1) rfl) (q _ _ T.same (.inr ⟨.non, rfl⟩))
    · exact x_ix (T.get (i := 0) rfl) (atI_nat (j := 2) rfl) (q _ _ T.same hz)
    · exact x_ix (T.get (i := 0) rfl) (atI_nat (j := 3) rfl) (q _ _ T.same ho)
    · exact x_ix (T.get (i := 0) rfl) (atI_nat (j := 4) rfl) (q _ _ T.same (.inr ⟨.int _, rfl⟩))
    · exact x_ix (T.get (i := 0) rfl) (atI_nat (j := 5) rfl) (q _ _ T.same (.inr ⟨.str _, rfl⟩))
    · exact x_ix (T.get (i := 0) rfl) (atI_nat (j := 6) rfl) (q _ _ T.same (.inr ⟨.dK (T.get (i := 1) rfl), rfl⟩))
  · walk_at "s"
    refine t_new T (Nat.le_of_ble_eq_true rfl) fun p1 T => ?_
    walk_at "s"
    refine x_I ⟨by decide, by decide⟩ ?_
    walk_at "s"
    refine x_I (by decide) ?_
    walk_at "s"
    obtain ⟨n, hn, hn1, hn2⟩ : ∃ n : Nat, 1 + ce / 11 % 7 = (n : Int) ∧ 1 ≤ n ∧ n ≤ 7 := ⟨(1 + ce / 11 % 7).toNat, by omega, by omega, by omega⟩
    rw [hn]
    refine t_rep T (by walk_at "fact") (by omega) fun p T => ?_
    have T := T.take 1
    walk_at "s"
    refine t_new T (Nat.le_of_ble_eq_true rfl) fun p1 T => ?_
    walk_at "s"
    refine t_tup T (Nat.le_of_ble_eq_true rfl) fun p2 T => ?_
    walk_at "s"
    refine t_new T (Nat.le_of_ble_eq_true rfl) fun p3 T => ?_
    walk_at "s"
    refine x_I ⟨by decide, by decide⟩ ?_
    walk_at "s"
    refine x_I (by decide) ?_
    have h3 : 0 ≤ ce / 539 % 8 ∧ ce / 539 % 8 < 8 := by omega
    generalize ce / 539 % 8 = k at *
    obtain ⟨v, o, e, hf, hkd⟩ := bad_fig (b := b) (p1 := p1) (p2 := p2) k h3
    refine x_ix (T.get (i := 0) rfl) e ?_
    unfold gSub
    walk_at "s"
    refine x_I ⟨by decide, by decide⟩ ?_
    walk_at "s"
    rw [List.length_replicate]
    refine x_I (by omega) ?_
    obtain ⟨j, hj, hjn⟩ : ∃ j : Nat, ce / 77 % (n : Int) = (j : Int) ∧ j < n := by
      have e1 := Int.emod_nonneg (ce / 77) (b := (n : Int)) (by omega)
      have e2 := Int.emod_lt_of_pos (ce / 77) (b := (n : Int)) (by omega)
      exact ⟨(ce / 77 % (n : Int)).toNat, by omega, by omega⟩
    rw [hj]
    refine ⟨p, _, _, j, rfl, rfl, T.get (i := 3) rfl, ?_, ?_⟩
    · unfold ixN
      rw [if_pos (by omega), if_pos (by rw [List.length_replicate]; omega), Int.toNat_natCast]
    have T := T.mut 3 rfl (o' := .lst ((List.replicate n (V.int 1)).set j v))
    walk_at "s"
    exact q _ _ T.same (rowK_set (T.get (i := 3) rfl) (hkd _ (T.get (i := 2) rfl) (T.get (i := 1) rfl)) (by omega) hjn hf)

/-! ### a list or a flat thing in a tuple of numbers -/
def rInZ (K : PySem.W.Frag) : R2 := fun x y H Q => rIn K false x y H Q ∨ ∃ (a : Addr) (xs : List V) (p : Addr) (is : List Int), x = .ref a ∧ SqL K H a xs ∧ y = .ref p ∧ SqT K H p (is.map V.int) ∧ Q (.bl false) H
theorem vals_ints : ∀ {is : List Int} {us : List Value}, Vals (is.map V.int) us → ∀ u ∈ us, ∃ i t, u = .int i t
  | [], _, .nil, u, h => nomatch h
  | i :: is, _ :: _, .cons r t, u, h => by
    rcases List.mem_cons.mp h with rfl | h
    · obtain ⟨tk, e⟩ := r
      exact ⟨i, tk, e⟩
    · exact vals_ints t u h
theorem op_inZ {X : Cx} (hu : X.A.units + 64 < cLine) : OpR X (compareOp .In) (rInZ X.K) := by
  intro pins s σ H x y v u Q I rx ry h
  rcases h with h | ⟨a, xs, p, is, rfl, ha, rfl, hp, q⟩
  · exact op_in_seq pins s σ H x y v u Q I rx ry h
  cases rx
  cases ry
  obtain ⟨its, r, pl, hz⟩ := I.tuple hp
  obtain ⟨jts, r2, pl2, hz2⟩ := I.list ha
  refine SeqAt.in_tupleAt (fun _ => false) pl (fun w hw => ?_) ⟨.bl _, H, I, rfl, ?_⟩
  · obtain ⟨i, t, rfl⟩ := vals_ints r w (by simpa using hw)
    exact SeqAt.EqAt.int_list i t pl2.isList (by show X.A.units + 1 < cLine; omega)
  · rw [show its.toArray.any (fun _ => false) = false by simp]
    exact q
theorem inV_ints (i : Int) : ∀ is : List Int, inV (.int i) (is.map V.int) = decide (i ∈ is)
  | [] => rfl
  | j :: is => by
    have ih := inV_ints i is
    show ((j == i) || inV (.int i) (is.map V.int)) = _
    rw [ih]
    by_cases h : j = i
    · subst h
      rw [beq_self_eq_true, Bool.true_or, decide_eq_true List.mem_cons_self]
    · rw [beq_eq_false_iff_ne.mpr h, Bool.false_or]
      by_cases h2 : i ∈ is
      · rw [decide_eq_true h2, decide_eq_true (List.mem_cons_of_mem _ h2)]
      · rw [decide_eq_false h2, decide_eq_false (fun z => (List.mem_cons.mp z).elim (fun e => h e.symm) h2)]
theorem flat_ints : ∀ is : List Int, (is.map V.int).all flatV = true
  | [] => rfl
  | i :: is => by
    rw [List.map_cons, List.all_cons, flat_ints is]
    rfl
theorem x_inI {K : PySem.W.Frag} {H : Hp} {Q : VK} {p : Addr} {i : Int} (is : List Int) (h : H p = some (.tup (is.map V.int))) (q : Q (.bl (decide (i ∈ is))) H) : rIn K false (.int i) (.ref p) H Q :=
  ⟨p, is.map V.int, rfl, .inr (SqT.of h), rfl, flat_ints is, by
    rw [inV_ints]
    exact q⟩
abbrev s__law_due : Stmt := topS 66
theorem sc__law_due : FnScope ["_law_which", "_law_is_good", "_law_has_rows", "_law_third_here", "_law_is_other"] ["_law_which", "_law_is_good", "_law_has_rows", "_law_third_here", "_law_is_other"] (defScope s__law_due) := ⟨rfl, rfl, rfl, by decide +kernel, rfl, by decide +kernel, by decide +kernel⟩
def inB (i : Int) (l : List Int) : Bool := l.any fun j => decide (i = j)
def negB : V → Bool
  | .int i => decide (i = -1) || decide (i = -7)
  | _ => false
theorem neg_in {t : V} (h : flatV t = true) : inV t ([-1, -7].map V.int) = negB t := by
  cases t with
  | int i =>
    rw [inV_ints]
    show _ = (decide (i = -1) || decide (i = -7))
    by_cases h1 : i = -1
    · subst h1
      rfl
    · by_cases h2 : i = -7
      · subst h2
        rfl
      · rw [decide_eq_false h1, decide_eq_false h2, decide_eq_false (fun z => by
          rcases List.mem_cons.mp z with z | z
          · exact h1 z
          · exact h2 (List.mem_singleton.mp z))]
        rfl
  | bl b => cases b <;> rfl
  | non => rfl
  | str x => rfl
  | _ => exact absurd (show false = true from h) Bool.false_ne_true
def dueW (wh : Int) (good rows : Bool) (t : V) (other : Bool) : Str :=
  if good = false then "base" else if (decide (wh < 13) && !rows) = true then "row" else if (decide (wh ∈ [3, 8]) && other) = true then "figure" else if (decide (wh ∈ [4, 6, 7]) && other) = true then "count" else if (decide (wh = 11) && other) = true then "base" else
    if (decide (wh = 15) && other) = true then (if negB t = true then "below" else "count") else if (decide (wh = 16) && other) = true then "row" else ""
def spDue : Sp := fun vs H Q _ => ∃ (wh : Int) (good rows other : Bool) (t : V), vs = [.int wh, .bl good, .bl rows, t, .bl other] ∧ (wh = 15 → flatV t = true ∨ ∃ a xs, t = .ref a ∧ H a = some (.lst xs)) ∧ RetV (.str (dueW wh good rows t other)) H Q
theorem ok_law_due {P : Program} {w : World} {K : PySem.W.Frag} {mg : Str → Option Value} {base : Heap} (D : Dfn K mg "_law_due" s__law_due) : Cal P w K mg base CX0 "_law_due" 1 (["_law_which", "_law_is_good", "_law_has_rows", "_law_third_here", "_law_is_other"]) spDue := by
  refine cal0 D sc__law_due (fun _ _ _ _ _ _ us hl => match us, hl with | [_, _, _, _, _], _ => rfl) (fun vs H Q E h => ?_) (fun f cdv A outer s H vs Q E hr h => ?_)
  · obtain ⟨wh, good, rows, other, t, rfl, _⟩ := h
    rfl
  obtain ⟨wh, good, rows, other, t, rfl, ht, q⟩ := h
  refine ⟨_, (pss_cons (ps_if (pt_not (pt_val (pv 1))) (pss_one (ps_ret pe_str)) pss_nil)
      (pss_cons (ps_if (PW.pt (pw_and (pt_cmpR op_lt (pv 0) pe_int (nomark _)) (pw_and1 (pt_not (pt_val (pv 2)))))) (pss_one (ps_ret pe_str)) pss_nil)
      (pss_cons (ps_if (PW.pt (pw_and (pt_cmpR op_in_seq (pv 0) (pe_tup (pa_cons pe_int (pa_cons pe_int pa_nil))) (by rfl)) (pw_and1 (pt_val (pv 4))))) (pss_one (ps_ret pe_str)) pss_nil)
      (pss_cons (ps_if (PW.pt (pw_and (pt_cmpR op_in_seq (pv 0) (pe_tup (pa_cons pe_int (pa_cons pe_int (pa_cons pe_int pa_nil)))) (by rfl)) (pw_and1 (pt_val (pv 4))))) (pss_one (ps_ret pe_str)) pss_nil)
      (pss_cons (ps_if (PW.pt (pw_and (pt_cmpR op_eq (pv 0) pe_int (nomark _)) (pw_and1 (pt_val (pv 4))))) (pss_one (ps_ret pe_str)) pss_nil)
      (pss_cons (ps_if (PW.pt (pw_and (pt_cmpR op_eq (pv 0) pe_int (nomark _)) (pw_and1 (pt_val (pv 4))))) (pss_one (ps_ret (pe_ifExp (pt_cmpR (op_inZ hr.units) (pv 3) (pe_tup (pa_cons (pe_un un_neg pe_int) (pa_cons (pe_un un_neg pe_int) pa_nil))) (by rfl)) pe_str pe_str))) pss_nil)
      (pss_cons (ps_if (PW.pt (pw_and (pt_cmpR op_eq (pv 0) pe_int (nomark _)) (pw_and1 (pt_val (pv 4))))) (pss_one (ps_ret pe_str)) pss_nil)
      (pss_one (ps_ret pe_str))))))))), ?_⟩
  show tSeq _ _ _ [some (.int wh), some (.bl good), some (.bl rows), some t, some (.bl other)] H
  have T := Trk.nil H
  unfold dueW at q
  cases good with
  | false =>
    rw [if_pos rfl] at q
    walk_at "s"
    exact q.go T
  | true =>
  rw [if_neg (by decide)] at q
  walk_at "p"
  with_reducible refine x_if ?_
  walk_at "p"
  have done : ∀ {v : Str} {H' : Hp}, RetV (.str v) H Q → Trk H H' [] → Q (.str v) H' := fun q T => q.go T
  refine x_mid (fun σ' H' => σ' = [some (.int wh), some (.bl true), some (.bl rows), some t, some (.bl other)] ∧ Trk H H' [] ∧ (decide (wh < 13) && !rows) = false) ?_ ?_
  · intro R hk
    walk_at "s"
    refine if2 (fun h1 => ?_) (fun h1 => ?_)
    · rw [h1, Bool.true_and] at hk q
      walk_at "s"
      refine if2 (fun h2 => ?_) (fun h2 => ?_)
      · rw [if_pos h2] at q
        walk_at "s"
        exact q.go T
      · walk_at "s"
        exact hk _ _ ⟨rfl, T, h2⟩
    · rw [h1, Bool.false_and] at hk
      walk_at "s"
      exact hk _ _ ⟨rfl, T, rfl⟩
  clear T
  rintro σ' H1 ⟨rfl, T, hc⟩
  rw [hc, if_neg (by decide)] at q
  walk_at "p"
  refine x_mid (fun σ' H' => σ' = [some (.int wh), some (.bl true), some (.bl rows), some t, some (.bl other)] ∧ Trk H H' [] ∧ (decide (wh ∈ [3, 8]) && other) = false) ?_ ?_
  · intro R hk
    walk_at "s"
    refine t_tup T (Nat.le_of_ble_eq_true rfl) fun p T => ?_
    walk_at "s"
    refine x_inI [3, 8] (by walk_at "fact") ?_
    walk_at "s"
    refine if2 (fun h1 => ?_) (fun h1 => ?_)
    · rw [h1, Bool.true_and] at hk q
      walk_at "s"
      refine if2 (fun h2 => ?_) (fun h2 => ?_)
      · rw [if_pos h2] at q
        walk_at "s"
        exact q.go T
      · walk_at "s"
        exact hk _ _ ⟨rfl, T.take 0, h2⟩
    · rw [h1, Bool.false_and] at hk
      walk_at "s"
      exact hk _ _ ⟨rfl, T.take 0, rfl⟩
  clear T
  rintro σ' H1 ⟨rfl, T, hc⟩
  rw [hc, if_neg (by decide)] at q
  walk_at "p"
  refine x_mid (fun σ' H' => σ' = [some (.int wh), some (.bl true), some (.bl rows), some t, some (.bl other)] ∧ Trk H H' [] ∧ (decide (wh ∈ [4, 6, 7]) && other) = false) ?_ ?_
  · intro R hk
    walk_at "s"
    refine t_tup T (Nat.le_of_ble_eq_true rfl) fun p T => ?_
    walk_at "s"
    refine x_inI [4, 6, 7] (by walk_at "fact") ?_
    walk_at "s"
    refine if2 (fun h1 => ?_) (fun h1 => ?_)
    · rw [h1, Bool.true_and] at hk q
      walk_at "s"
      refine if2 (fun h2 => ?_) (fun h2 => ?_)
      · rw [if_pos h2] at q
        walk_at "s"
        exact q.go T
      · walk_at "s"
        exact hk _ _ ⟨rfl, T.take 0, h2⟩
    · rw [h1, Bool.false_and] at hk
      walk_at "s"
      exact hk _ _ ⟨rfl, T.take 0, rfl⟩
  clear T
  rintro σ' H1 ⟨rfl, T, hc⟩
  rw [hc, if_neg (by decide)] at q
  walk_at "p"
  refine x_mid (fun σ' H' => σ' = [some (.int wh), some (.bl true), some (.bl rows), some t, some (.bl other)] ∧ Trk H H' [] ∧ (decide (wh = 11) && other) = false) ?_ ?_
  · intro R hk
    walk_at "s"
    refine if2 (fun h1 => ?_) (fun h1 => ?_)
    · rw [h1, Bool.true_and] at hk q
      walk_at "s"
      refine if2 (fun h2 => ?_) (fun h2 => ?_)
      · rw [if_pos h2] at q
        walk_at "s"
        exact q.go T
      · walk_at "s"
        exact hk _ _ ⟨rfl, T.take 0, h2⟩
    · rw [h1, Bool.false_and] at hk
      walk_at "s"
      exact hk _ _ ⟨rfl, T.take 0, rfl⟩
  clear T
  rintro σ' H1 ⟨rfl, T, hc⟩
  rw [hc, if_neg (by decide)] at q
  walk_at "p"
  refine x_mid (fun σ' H' => σ' = [some (.int wh), some (.bl true), some (.bl rows), some t, some (.bl other)] ∧ Trk H H' [] ∧ (decide (wh = 15) && other) = false) ?_ ?_
  · intro R hk
    walk_at "s"
    refine if2 (fun h1 => ?_) (fun h1 => ?_)
    · rw [h1, Bool.true_and] at hk q
      walk_at "s"
      refine if2 (fun h2 => ?_) (fun h2 => ?_)
      · rw [if_pos h2] at q
        have h15 : wh = 15 := of_decide_eq_true h1
        walk_at "s"
        refine t_tup T (Nat.le_of_ble_eq_true rfl) fun p T => ?_
        walk_at "s"
        rcases ht h15 with hf | ⟨a, xs, rfl, ha⟩
        · refine .inl ⟨p, [-1, -7].map V.int, rfl, .inr (SqT.of (by walk_at "fact")), hf, rfl, ?_⟩
          rw [if_neg Bool.false_ne_true, neg_in hf]
          walk_at "s"
          refine if2 (fun h3 => ?_) (fun h3 => ?_)
          · rw [if_pos h3] at q
            walk_at "s"
            exact q.go T
          · rw [if_neg (by rw [h3]; decide)] at q
            walk_at "s"
            exact q.go T
        · refine .inr ⟨a, xs, p, [-1, -7], rfl, SqL.of (T.up ha), rfl, SqT.of (by walk_at "fact"), ?_⟩
          walk_at "s"
          exact q.go T
      · walk_at "s"
        exact hk _ _ ⟨rfl, T.take 0, h2⟩
    · rw [h1, Bool.false_and] at hk
      walk_at "s"
      exact hk _ _ ⟨rfl, T.take 0, rfl⟩
  clear T
  rintro σ' H1 ⟨rfl, T, hc⟩
  rw [hc, if_neg (by decide)] at q
  walk_at "p"
  refine x_mid (fun σ' H' => σ' = [some (.int wh), some (.bl true), some (.bl rows), some t, some (.bl other)] ∧ Trk H H' [] ∧ (decide (wh = 16) && other) = false) ?_ ?_
  · intro R hk
    walk_at "s"
    refine if2 (fun h1 => ?_) (fun h1 => ?_)
    · rw [h1, Bool.true_and] at hk q
      walk_at "s"
      refine if2 (fun h2 => ?_) (fun h2 => ?_)
      · rw [if_pos h2] at q
        walk_at "s"
        exact q.go T
      · walk_at "s"
        exact hk _ _ ⟨rfl, T.take 0, h2⟩
    · rw [h1, Bool.false_and] at hk
      walk_at "s"
      exact hk _ _ ⟨rfl, T.take 0, rfl⟩
  clear T
  rintro σ' H1 ⟨rfl, T, hc⟩
  rw [hc, if_neg (by decide)] at q
  walk_at "s"
  exact q.go T

abbrev s__law_cannot : Stmt := topS 64
theorem sc__law_cannot : FnScope ["_law_which", "_law_other", "_law_third_here"] ["_law_which", "_law_other", "_law_third_here"] (defScope s__law_cannot) := ⟨rfl, rfl, rfl, by decide +kernel, rfl, by decide +kernel, by decide +kernel⟩
def CannotR (H : Hp) (wh : Int) (y t : V) (r : Str) : Prop := (wh = 2 ∧ ∃ (a : Addr) (l : List Nat), y = .ref a ∧ H a = some (.lst (iv l)) ∧ r = if l = [1, 1, 1] then "below" else "") ∨ (wh = 9 ∧ ∃ (a : Addr) (l : List Nat), y = .ref a ∧ H a = some (.lst (iv l)) ∧ r = if l = [] then "by" else "") ∨
  (wh = 8 ∧ ∃ f : Int, t = .int f ∧ r = if f = 0 then "by" else "") ∨ (wh ≠ 2 ∧ wh ≠ 9 ∧ wh ≠ 8 ∧ r = "")
def spCannot : Sp := fun vs H Q _ => ∃ (wh : Int) (y t : V) (r : Str), vs = [.int wh, y, t] ∧ CannotR H wh y t r ∧ RetV (.str r) H Q
theorem ok_law_cannot {P : Program} {w : World} {K : PySem.W.Frag} {mg : Str → Option Value} {base : Heap} (D : Dfn K mg "_law_cannot" s__law_cannot) : Cal P w K mg base CX0 "_law_cannot" 1 (["_law_which", "_law_other", "_law_third_here"]) spCannot := by
  refine cal0 D sc__law_cannot (fun _ _ _ _ _ _ us hl => match us, hl with | [_, _, _], _ => rfl) (fun vs H Q E h => ?_) (fun f cdv A outer s H vs Q E hr h => ?_)
  · obtain ⟨wh, y, t, r, rfl, _⟩ := h
    rfl
  obtain ⟨wh, y, t, r, rfl, h, q⟩ := h
  refine ⟨_, (pss_cons (ps_if (PW.pt (pw_and (pt_cmpR op_eq (pv 0) pe_int (nomark _)) (pw_and1 (pt_cmpR (op_eqD hr.units) (pv 1) (pe_lst (pa_cons pe_int (pa_cons pe_int (pa_cons pe_int pa_nil)))) (nomark _))))) (pss_one (ps_ret pe_str)) pss_nil)
      (pss_cons (ps_if (PW.pt (pw_or (PW.pt (pw_and (pt_cmpR op_eq (pv 0) pe_int (nomark _)) (pw_and1 (pt_cmpR (op_eqD hr.units) (pv 1) (pe_lst pa_nil) (nomark _))))) (pw_or1 (PW.pt (pw_and (pt_cmpR op_eq (pv 0) pe_int (nomark _)) (pw_and1 (pt_cmpR op_eq (pv 2) pe_int (nomark _)))))))) (pss_one (ps_ret pe_str)) pss_nil)
      (pss_one (ps_ret pe_str)))), ?_⟩
  show tSeq _ _ _ [some (.int wh), some y, some t] H
  have T := Trk.nil H
  rcases h with ⟨rfl, a, l, rfl, ha, rfl⟩ | ⟨rfl, a, l, rfl, ha, rfl⟩ | ⟨rfl, f, rfl, rfl⟩ | ⟨h1, h2, h3, rfl⟩
  · walk_at "s"
    refine ifT rfl ?_
    walk_at "s"
    refine t_new T (Nat.le_of_ble_eq_true rfl) fun p T => ?_
    walk_at "s"
    refine x_eqL (l := l) (m := [1, 1, 1]) (T.up ha) (by walk_at "fact") ?_
    walk_at "s"
    refine if2 (fun h1 => ?_) (fun h1 => ?_)
    · rw [if_pos (of_decide_eq_true h1)] at q
      walk_at "s"
      exact q.go T
    · rw [if_neg (of_decide_eq_false h1)] at q
      walk_at "s"
      refine ifF rfl ?_
      walk_at "s"
      refine ifF rfl ?_
      walk_at "s"
      exact q.go T
  · walk_at "s"
    refine ifF rfl ?_
    walk_at "s"
    refine ifT rfl ?_
    walk_at "s"
    refine t_new T (Nat.le_of_ble_eq_true rfl) fun p T => ?_
    walk_at "s"
    refine x_eqL (l := l) (m := []) (T.up ha) (by walk_at "fact") ?_
    walk_at "s"
    refine if2 (fun h1 => ?_) (fun h1 => ?_)
    · rw [if_pos (of_decide_eq_true h1)] at q
      walk_at "s"
      exact q.go T
    · rw [if_neg (of_decide_eq_false h1)] at q
      walk_at "s"
      refine ifF rfl ?_
      walk_at "s"
      exact q.go T
  · walk_at "s"
    refine ifF rfl ?_
    walk_at "s"
    refine ifF rfl ?_
    walk_at "s"
    refine ifT rfl ?_
    walk_at "s"
    refine if2 (fun h1 => ?_) (fun h1 => ?_)
    · rw [if_pos (of_decide_eq_true h1)] at q
      walk_at "s"
      exact q.go T
    · rw [if_neg (of_decide_eq_false h1)] at q
      walk_at "s"
      exact q.go T
  · walk_at "s"
    refine ifF (decide_eq_false h1) ?_
    walk_at "s"
    refine ifF (decide_eq_false h2) ?_
    walk_at "s"
    refine ifF (decide_eq_false h3) ?_
    walk_at "s"
    exact q.go T
abbrev s__law_answers : Stmt := topS 65
theorem sc__law_answers : FnScope ["_law_which", "_law_base", "_law_one", "_law_third_here", "_law_is_row_good", "_law_is_other", "_law_found"] ["_law_which", "_law_base", "_law_one", "_law_third_here", "_law_is_row_good", "_law_is_other"] (defScope s__law_answers) := ⟨rfl, rfl, rfl, by decide +kernel, rfl, by decide +kernel, by decide +kernel⟩
def spAnswers : Sp := fun vs H Q _ => ∃ (wh : Int) (x y t : V) (rg io : Bool), vs = [.int wh, x, y, t, .bl rg, .bl io] ∧ (wh = 13 → ∃ b : Nat, x = .int (b : Int) ∧ (2 ≤ b ∧ b ≤ 1000000) ∧ RowK H b y rg) ∧ (wh = 14 → ∃ (b : Nat) (o : Option Int), x = .int (b : Int) ∧ (2 ≤ b ∧ b ≤ 1000000) ∧ Kd H t o ∧ figB b o = !io) ∧ RetV (.bl true) H Q
theorem ok_law_answers {P : Program} {w : World} {K : PySem.W.Frag} {mg : Str → Option Value} {base : Heap} (D : Dfn K mg "_law_answers" s__law_answers) (m_isinstance : mg "isinstance" = none) (m_bool : mg "bool" = none) (C_is_row : Cal P w K mg base CX0 "is_row" 5 ["base", "row"] spIsRow) (C_is_figure : Cal P w K mg base CX0 "is_figure" 4 ["base", "figure"] spIsFigure) : Cal P w K mg base CX0 "_law_answers" 6 (["_law_which", "_law_base", "_law_one", "_law_third_here", "_law_is_row_good", "_law_is_other"]) spAnswers := by
  refine cal0 D sc__law_answers (fun _ _ _ _ _ _ us hl => match us, hl with | [_, _, _, _, _, _], _ => rfl) (fun vs H Q E h => ?_) (fun f cdv A outer s H vs Q E hr h => ?_)
  · obtain ⟨wh, x, y, t, rg, io, rfl, _⟩ := h
    rfl
  obtain ⟨wh, x, y, t, rg, io, rfl, h13, h14, q⟩ := h
  refine ⟨_, (pss_cons (ps_if (pt_cmpR op_eq (pv 0) pe_int (nomark _)) (pss_cons (ps_set (i := 6) sc__law_answers.nd rfl (Or.inl rfl) (pc C_is_row hr (pa_cons (pv 1) (pa_cons (pv 2) pa_nil))))
      (pss_one (ps_ret (pe_and (pe_callB call_isi (by rfl) m_isinstance (by decide +kernel) (pa_cons (pv 6) (pa_cons (pe_bltn (v := .ty "bool") (by rfl) m_bool (by decide +kernel) rfl) pa_nil))) (pe_one (pe_cmpR op_eq (pv 6) (pv 4) (nomark _))))))) pss_nil)
      (pss_cons (ps_if (pt_cmpR op_eq (pv 0) pe_int (nomark _)) (pss_cons (ps_set (i := 6) sc__law_answers.nd rfl (Or.inl rfl) (pc C_is_figure hr (pa_cons (pv 1) (pa_cons (pv 3) pa_nil))))
      (pss_one (ps_ret (pe_and (pe_callB call_isi (by rfl) m_isinstance (by decide +kernel) (pa_cons (pv 6) (pa_cons (pe_bltn (v := .ty "bool") (by rfl) m_bool (by decide +kernel) rfl) pa_nil))) (pe_one (pe_cmpR op_ne (pv 6) (pv 5) (nomark _))))))) pss_nil)
      (pss_one (ps_ret pe_bl)))), ?_⟩
  show tSeq _ _ _ [some (.int wh), some x, some y, some t, some (.bl rg), some (.bl io), none] H
  have T := Trk.nil H
  walk_at "s"
  refine if2 (fun h1 => ?_) (fun h1 => ?_)
  · obtain ⟨b, rfl, hb, hk⟩ := h13 (of_decide_eq_true h1)
    walk_at "s"
    refine ⟨b, y, rg, rfl, hb, hk, t_retV T fun _ T => ?_⟩
    walk_at "s"
    refine x_isi (b := true) (.base (.bl rg)) (by decide +kernel) ?_
    walk_at "s"
    refine ⟨rfl, ?_⟩
    rw [decide_eq_true rfl]
    exact q.go T
  · walk_at "s"
    refine if2 (fun h2 => ?_) (fun h2 => ?_)
    · obtain ⟨b, o, rfl, hb, hk, hf⟩ := h14 (of_decide_eq_true h2)
      walk_at "s"
      refine ⟨b, t, o, rfl, hb, hk, t_retV T fun _ T => ?_⟩
      walk_at "s"
      refine x_isi (b := true) (.base (.bl _)) (by decide +kernel) ?_
      walk_at "s"
      refine ⟨rfl, ?_⟩
      rw [hf]
      have e : (!decide (V.bl (!io) = V.bl io)) = true := by cases io <;> decide
      rw [e]
      exact q.go T
    · walk_at "s"
      exact q.go T

abbrev s__law_third : Stmt := topS 63
theorem sc__law_third : FnScope ["_law_which", "_law_base", "_law_cell"] ["_law_which", "_law_base", "_law_cell"] (defScope s__law_third) := ⟨rfl, rfl, rfl, by decide +kernel, rfl, by decide +kernel, by decide +kernel⟩
structure ThirdR (H : Hp) (wh : Int) (b : Nat) (bad : Bool) (t : V) : Prop where
  f38 : (wh = 3 ∨ wh = 8) → (bad = true ∧ ∃ o, Kd H t o ∧ figB b o = false) ∨ (bad = false ∧ (t = .int 0 ∨ t = .int 1))
  f14 : wh = 14 → ∃ o, Kd H t o ∧ figB b o = !bad
  f16 : wh = 16 → (bad = true ∧ (NoS H t ∨ ∃ line, t = .str line ∧ line.length ≤ 640 ∧ readB b line = false)) ∨ (bad = false ∧ ∃ line, t = .str line ∧ line.length ≤ 640 ∧ readB b line = true)
  f11 : wh = 11 → (bad = true ∧ ∃ o, Kd H t o ∧ isB o = false) ∨ (bad = false ∧ t = .int 10)
  f4 : wh = 4 → (bad = true ∧ ∃ o, Kd H t o ∧ cntB 0 o = false) ∨ (bad = false ∧ t = .int 3)
  f67 : (wh = 6 ∨ wh = 7) → (bad = true ∧ ∃ o, Kd H t o ∧ cntB 3 o = false) ∨ (bad = false ∧ t = .int 3)
  f15 : wh = 15 → (flatV t = true ∨ ∃ a xs, t = .ref a ∧ H a = some (.lst xs)) ∧ ((bad = true ∧ ((Kd H t none ∧ negB t = false) ∨ ∃ i : Int, t = .int i ∧ i < 0 ∧ negB t = true)) ∨ (bad = false ∧ t = .int 3))
def spThird : Sp := fun vs H Q _ => ∃ (wh : Int) (b : Nat) (ce : Int), vs = [.int wh, .int (b : Int), .int ce] ∧ (0 ≤ wh ∧ wh ≤ 16) ∧ (2 ≤ b ∧ b ≤ 1000000) ∧ ∀ t H', Same H H' → ThirdR H' wh b (decide (ce % 2 = 1)) t → Q t H'
theorem bad_fig1 {b : Nat} {p1 p2 : Addr} (k : Int) (hk : 0 ≤ k ∧ k < 8) : ∃ v o, atI [V.int (b : Int), .int (-1), .bl true, .str "1", .non, .int ((b : Int) + 1), .ref p1, .ref p2] k = some v ∧ figB b o = false ∧ ∀ HH : Hp, HH p1 = some (.lst [.int 1]) → HH p2 = some (.tup [.int 1]) → Kd HH v o := by
  have h4 : k = 0 ∨ k = 1 ∨ k = 2 ∨ k = 3 ∨ k = 4 ∨ k = 5 ∨ k = 6 ∨ k = 7 := by omega
  have f1 : figB b (some (b : Int)) = false := by
    show (decide (0 ≤ (b : Int)) && decide ((b : Int) < (b : Int))) = false
    rw [decide_eq_false (by omega : ¬ (b : Int) < (b : Int)), Bool.and_false]
  have f2 : figB b (some ((b : Int) + 1)) = false := by
    show (decide (0 ≤ (b : Int) + 1) && decide ((b : Int) + 1 < (b : Int))) = false
    rw [decide_eq_false (by omega : ¬ (b : Int) + 1 < (b : Int)), Bool.and_false]
  rcases h4 with rfl | rfl | rfl | rfl | rfl | rfl | rfl | rfl
  · exact ⟨_, _, atI_nat (j := 0) rfl, f1, fun _ _ _ => .int _⟩
  · exact ⟨_, some (-1), atI_nat (j := 1) rfl, rfl, fun _ _ _ => .int _⟩
  · exact ⟨_, none, atI_nat (j := 2) rfl, rfl, fun _ _ _ => .bl _⟩
  · exact ⟨_, none, atI_nat (j := 3) rfl, rfl, fun _ _ _ => .str _⟩
  · exact ⟨_, none, atI_nat (j := 4) rfl, rfl, fun _ _ _ => .non⟩
  · exact ⟨_, _, atI_nat (j := 5) rfl, f2, fun _ _ _ => .int _⟩
  · exact ⟨_, none, atI_nat (j := 6) rfl, rfl, fun _ h _ => .lst h⟩
  · exact ⟨_, none, atI_nat (j := 7) rfl, rfl, fun _ _ h => .tup h⟩
theorem readB_one {b : Nat} (hb : 2 ≤ b) : readB b "1" = true := by
  unfold readB
  rw [show (wordsOf "1").all figsB = true by decide +kernel, show rowOf "1" = [1] by decide +kernel]
  show (_ || (true && ((figB b (some ((1 : Nat) : Int)) && true) && true))) = true
  rw [figB_nat (by omega : 1 < b)]
  rfl
theorem readB_zero {b : Nat} : readB b "0" = true := by
  unfold readB
  rw [decide_eq_true rfl, Bool.true_or]
theorem readB_two {b : Nat} (hb : 2 ≤ b) : readB b "1.0" = true := by
  unfold readB
  rw [show (wordsOf "1.0").all figsB = true by decide +kernel, show rowOf "1.0" = [0, 1] by decide +kernel]
  show (_ || (true && ((figB b (some ((0 : Nat) : Int)) && (figB b (some ((1 : Nat) : Int)) && true)) && true))) = true
  rw [figB_nat (by omega : 1 < b), figB_nat (by omega : 0 < b)]
  rfl
theorem readB_no {b : Nat} : readB b "" = false := by
  unfold readB
  rw [show (wordsOf "").all figsB = false by decide +kernel]
  rfl
theorem readB_end {b : Nat} : readB b "1." = false := by
  unfold readB
  rw [show (wordsOf "1.").all figsB = false by decide +kernel]
  rfl
theorem third16 {H : Hp} {b : Nat} {bad : Bool} {t : V} (h : (bad = true ∧ (NoS H t ∨ ∃ line, t = .str line ∧ line.length ≤ 640 ∧ readB b line = false)) ∨ (bad = false ∧ ∃ line, t = .str line ∧ line.length ≤ 640 ∧ readB b line = true)) : ThirdR H 16 b bad t :=
  ⟨fun h => absurd h (by decide), fun h => absurd h (by decide), fun _ => h, fun h => absurd h (by decide), fun h => absurd h (by decide), fun h => absurd h (by decide), fun h => absurd h (by decide)⟩
set_option maxHeartbeats 4000000 in
theorem ok_law_third {P : Program} {w : World} {K : PySem.W.Frag} {mg : Str → Option Value} {base : Heap} (D : Dfn K mg "_law_third" s__law_third) : Cal P w K mg base CX0 "_law_third" 1 (["_law_which", "_law_base", "_law_cell"]) spThird := by
  refine cal0 D sc__law_third (fun _ _ _ _ _ _ us hl => match us, hl with | [_, _, _], _ => rfl) (fun vs H Q E h => ?_) (fun f cdv A outer s H vs Q E hr h => ?_)
  · obtain ⟨wh, b, ce, rfl, _⟩ := h
    rfl
  obtain ⟨wh, b, ce, rfl, hw, hb, q⟩ := h
  refine ⟨_, (pss_cons (ps_if (PW.pt (pw_and (pt_cmpR op_eq (pe_op op_mod (pv 2) pe_int) pe_int (nomark _)) (pw_and1 (PW.pt (pw_or (pt_cmpR op_eq (pv 0) pe_int (nomark _)) (pw_or1 (pt_cmpR op_eq (pv 0) pe_int (nomark _)))))))) (pss_one (ps_ret (pe_op op_mod (pe_op op_fdiv (pv 2) pe_int) pe_int))) pss_nil)
      (pss_cons (ps_if (pt_cmpR op_eq (pv 0) pe_int (nomark _)) (pss_one (ps_ret (pe_ix ix_list (pe_lst (pa_cons pe_str (pa_cons pe_int (pa_cons pe_str (pa_cons pe_non (pa_cons pe_str (pa_cons pe_str (pa_cons pe_str (pa_cons pe_str (pa_cons pe_str (pa_cons (pe_lst (pa_cons pe_str pa_nil)) pa_nil))))))))))) (pe_op op_mod (pv 2) pe_int) (fun _ _ => rfl)))) pss_nil)
      (pss_cons (ps_if (pt_cmpR op_eq (pe_op op_mod (pv 2) pe_int) pe_int (nomark _)) (pss_one (ps_ret (pe_ix ix_list (pe_lst (pa_cons pe_int (pa_cons pe_int (pa_cons pe_int pa_nil)))) (pe_ix ix_list (pe_lst (pa_cons pe_int (pa_cons pe_int (pa_cons pe_int (pa_cons pe_int (pa_cons pe_int (pa_cons pe_int (pa_cons pe_int (pa_cons pe_int (pa_cons pe_int (pa_cons pe_int (pa_cons pe_int (pa_cons pe_int (pa_cons pe_int (pa_cons pe_int (pa_cons pe_int (pa_cons pe_int pa_nil))))))))))))))))) (pv 0) (fun _ _ => rfl)) (fun _ _ => rfl)))) pss_nil)
      (pss_cons (ps_if (pt_cmpR (op_inZ hr.units) (pv 0) (pe_tup (pa_cons pe_int (pa_cons pe_int (pa_cons pe_int pa_nil)))) (by rfl)) (pss_one (ps_ret (pe_ix ix_list (pe_lst (pa_cons (pv 1) (pa_cons (pe_un un_neg pe_int) (pa_cons pe_bl (pa_cons pe_str (pa_cons pe_non (pa_cons (pe_op op_add (pv 1) pe_int) (pa_cons (pe_lst (pa_cons pe_int pa_nil)) (pa_cons (pe_tup (pa_cons pe_int pa_nil)) pa_nil))))))))) (pe_op op_mod (pe_op op_fdiv (pv 2) pe_int) pe_int) (fun _ _ => rfl)))) pss_nil)
      (pss_cons (ps_if (pt_cmpR op_eq (pv 0) pe_int (nomark _)) (pss_one (ps_ret (pe_ix ix_list (pe_lst (pa_cons pe_int (pa_cons pe_int (pa_cons pe_bl (pa_cons pe_int (pa_cons pe_str (pa_cons pe_non (pa_cons (pe_un un_neg pe_int) pa_nil)))))))) (pe_op op_mod (pe_op op_fdiv (pv 2) pe_int) pe_int) (fun _ _ => rfl)))) pss_nil)
      (pss_cons (ps_if (pt_cmpR op_eq (pv 0) pe_int (nomark _)) (pss_one (ps_ret (pe_ix ix_list (pe_lst (pa_cons (pe_un un_neg pe_int) (pa_cons pe_bl (pa_cons pe_str (pa_cons pe_non (pa_cons (pe_un un_neg pe_int) (pa_cons (pe_lst (pa_cons pe_int pa_nil)) pa_nil))))))) (pe_op op_mod (pe_op op_fdiv (pv 2) pe_int) pe_int) (fun _ _ => rfl)))) pss_nil)
      (pss_cons (ps_if (PW.pt (pw_or (pt_cmpR op_eq (pv 0) pe_int (nomark _)) (pw_or1 (pt_cmpR op_eq (pv 0) pe_int (nomark _))))) (pss_one (ps_ret (pe_ix ix_list (pe_lst (pa_cons pe_int (pa_cons pe_bl (pa_cons pe_str (pa_cons pe_non (pa_cons pe_int (pa_cons (pe_un un_neg pe_int) (pa_cons (pe_tup (pa_cons pe_int pa_nil)) pa_nil)))))))) (pe_op op_mod (pe_op op_fdiv (pv 2) pe_int) pe_int) (fun _ _ => rfl)))) pss_nil)
      (pss_one (ps_ret (pe_ix ix_list (pe_lst (pa_cons (pe_un un_neg pe_int) (pa_cons pe_bl (pa_cons pe_str (pa_cons pe_non (pa_cons (pe_un un_neg pe_int) (pa_cons (pe_lst (pa_cons pe_int pa_nil)) pa_nil))))))) (pe_op op_mod (pe_op op_fdiv (pv 2) pe_int) pe_int) (fun _ _ => rfl))))))))))), ?_⟩
  show tSeq _ _ _ [some (.int wh), some (.int (b : Int)), some (.int ce)] H
  have T := Trk.nil H
  walk_at "p"
  refine x_mid (fun σ' H' => σ' = [some (.int wh), some (.int (b : Int)), some (.int ce)] ∧ Trk H H' [] ∧ ¬ (ce % 2 = 0 ∧ (wh = 3 ∨ wh = 8))) ?_ ?_
  · intro R hk
    have good : wh = 3 ∨ wh = 8 → ce % 2 = 0 → Q (.int (ce / 2 % 2)) H := fun h3 h2 => by
      have hd : decide (ce % 2 = 1) = false := decide_eq_false (by omega)
      refine q _ _ (Same.refl H) ⟨fun _ => .inr ⟨hd, ?_⟩, fun h => absurd h (by omega), fun h => absurd h (by omega), fun h => absurd h (by omega), fun h => absurd h (by omega), fun h => absurd h (by omega), fun h => absurd h (by omega)⟩
      have : ce / 2 % 2 = 0 ∨ ce / 2 % 2 = 1 := by omega
      rcases this with e | e <;> rw [e]
      · exact .inl rfl
      · exact .inr rfl
    walk_at "s"
    refine x_I (by decide) ?_
    walk_at "s"
    refine if2 (fun h1 => ?_) (fun h1 => ?_)
    · have h1' : ce % 2 = 0 := of_decide_eq_true h1
      walk_at "s"
      refine if2 (fun h2 => ?_) (fun h2 => ?_)
      · have h2' : wh = 3 := of_decide_eq_true h2
        walk_at "s"
        refine x_I ⟨by decide, by decide⟩ ?_
        walk_at "s"
        refine x_I (by decide) ?_
        walk_at "s"
        exact good (.inl h2') h1'
      · have h2' : ¬ wh = 3 := of_decide_eq_false h2
        walk_at "s"
        refine if2 (fun h3 => ?_) (fun h3 => ?_)
        · have h3' : wh = 8 := of_decide_eq_true h3
          walk_at "s"
          refine x_I ⟨by decide, by decide⟩ ?_
          walk_at "s"
          refine x_I (by decide) ?_
          walk_at "s"
          exact good (.inr h3') h1'
        · have h3' : ¬ wh = 8 := of_decide_eq_false h3
          walk_at "s"
          exact hk _ _ ⟨rfl, T, by omega⟩
    · have h1' : ¬ ce % 2 = 0 := of_decide_eq_false h1
      walk_at "s"
      exact hk _ _ ⟨rfl, T, by omega⟩
  clear T
  rintro σ' H1 ⟨rfl, T, hA⟩
  walk_at "p"
  refine x_mid (fun σ' H' => σ' = [some (.int wh), some (.int (b : Int)), some (.int ce)] ∧ Trk H H' [] ∧ wh ≠ 16) ?_ ?_
  · intro R hk
    walk_at "s"
    refine if2 (fun h1 => ?_) (fun h1 => ?_)
    · have h1' : wh = 16 := of_decide_eq_true h1
      subst h1'
      walk_at "s"
      refine t_new T (Nat.le_of_ble_eq_true rfl) fun p1 T => ?_
      walk_at "s"
      refine t_new T (Nat.le_of_ble_eq_true rfl) fun p2 T => ?_
      walk_at "s"
      refine x_I (by decide) ?_
      have hz : decide (ce % 2 = 1) = decide (ce % 10 % 2 = 1) := by
        have : ce % 10 % 2 = ce % 2 := by omega
        rw [this]
      rw [hz] at q
      have h3 : 0 ≤ ce % 10 ∧ ce % 10 < 10 := by omega
      clear hz hA
      generalize ce % 10 = k at *
      have h4 : k = 0 ∨ k = 1 ∨ k = 2 ∨ k = 3 ∨ k = 4 ∨ k = 5 ∨ k = 6 ∨ k = 7 ∨ k = 8 ∨ k = 9 := by omega
      have hp1 := T.get (i := 1) rfl
      rcases h4 with rfl | rfl | rfl | rfl | rfl | rfl | rfl | rfl | rfl | rfl
      · exact x_ix (T.get (i := 0) rfl) (atI_nat (j := 0) rfl) (q _ _ T.same (third16 (.inr ⟨rfl, _, rfl, by decide, readB_one hb.1⟩)))
      · exact x_ix (T.get (i := 0) rfl) (atI_nat (j := 1) rfl) (q _ _ T.same (third16 (.inl ⟨rfl, .inl (.int _)⟩)))
      · exact x_ix (T.get (i := 0) rfl) (atI_nat (j := 2) rfl) (q _ _ T.same (third16 (.inr ⟨rfl, _, rfl, by decide, readB_zero⟩)))
      · exact x_ix (T.get (i := 0) rfl) (atI_nat (j := 3) rfl) (q _ _ T.same (third16 (.inl ⟨rfl, .inl .non⟩)))
      · exact x_ix (T.get (i := 0) rfl) (atI_nat (j := 4) rfl) (q _ _ T.same (third16 (.inr ⟨rfl, _, rfl, by decide, readB_two hb.1⟩)))
      · exact x_ix (T.get (i := 0) rfl) (atI_nat (j := 5) rfl) (q _ _ T.same (third16 (.inl ⟨rfl, .inr ⟨_, rfl, by decide, readB_no⟩⟩)))
      · exact x_ix (T.get (i := 0) rfl) (atI_nat (j := 6) rfl) (q _ _ T.same (third16 (.inr ⟨rfl, _, rfl, by decide, readB_one hb.1⟩)))
      · exact x_ix (T.get (i := 0) rfl) (atI_nat (j := 7) rfl) (q _ _ T.same (third16 (.inl ⟨rfl, .inr ⟨_, rfl, by decide, readB_end⟩⟩)))
      · exact x_ix (T.get (i := 0) rfl) (atI_nat (j := 8) rfl) (q _ _ T.same (third16 (.inr ⟨rfl, _, rfl, by decide, readB_zero⟩)))
      · exact x_ix (T.get (i := 0) rfl) (atI_nat (j := 9) rfl) (q _ _ T.same (third16 (.inl ⟨rfl, .inl (.lst hp1)⟩)))
    · walk_at "s"
      exact hk _ _ ⟨rfl, T, of_decide_eq_false h1⟩
  clear T
  rintro σ' H1 ⟨rfl, T, hB⟩
  walk_at "p"
  refine x_mid (fun σ' H' => σ' = [some (.int wh), some (.int (b : Int)), some (.int ce)] ∧ Trk H H' [] ∧ ce % 2 = 1) ?_ ?_
  · intro R hk
    walk_at "s"
    refine x_I (by decide) ?_
    walk_at "s"
    refine if2 (fun h1 => ?_) (fun h1 => ?_)
    · have h1' : ce % 2 = 0 := of_decide_eq_true h1
      have hd : decide (ce % 2 = 1) = false := decide_eq_false (by omega)
      rw [hd] at q
      walk_at "s"
      refine t_new T (Nat.le_of_ble_eq_true rfl) fun p1 T => ?_
      walk_at "s"
      refine t_new T (Nat.le_of_ble_eq_true rfl) fun p2 T => ?_
      walk_at "s"
      have h4 : wh = 0 ∨ wh = 1 ∨ wh = 2 ∨ wh = 4 ∨ wh = 5 ∨ wh = 6 ∨ wh = 7 ∨ wh = 9 ∨ wh = 10 ∨ wh = 11 ∨ wh = 12 ∨ wh = 13 ∨ wh = 14 ∨ wh = 15 := by omega
      have nb := fun {t : V} (h : wh = 0 ∨ wh = 1 ∨ wh = 2 ∨ wh = 5 ∨ wh = 9 ∨ wh = 10 ∨ wh = 12 ∨ wh = 13) => q t _ T.same ⟨fun h => absurd h (by omega), fun h => absurd h (by omega), fun h => absurd h (by omega), fun h => absurd h (by omega), fun h => absurd h (by omega), fun h => absurd h (by omega), fun h => absurd h (by omega)⟩
      rcases h4 with rfl | rfl | rfl | rfl | rfl | rfl | rfl | rfl | rfl | rfl | rfl | rfl | rfl | rfl
      · exact x_ix (T.get (i := 0) rfl) (atI_nat (j := 0) rfl) (x_ix (T.get (i := 1) rfl) (atI_nat (j := 0) rfl) (nb (by decide)))
      · exact x_ix (T.get (i := 0) rfl) (atI_nat (j := 1) rfl) (x_ix (T.get (i := 1) rfl) (atI_nat (j := 0) rfl) (nb (by decide)))
      · exact x_ix (T.get (i := 0) rfl) (atI_nat (j := 2) rfl) (x_ix (T.get (i := 1) rfl) (atI_nat (j := 0) rfl) (nb (by decide)))
      · exact x_ix (T.get (i := 0) rfl) (atI_nat (j := 4) rfl) (x_ix (T.get (i := 1) rfl) (atI_nat (j := 1) rfl) (q _ _ T.same ⟨fun h => absurd h (by decide), fun h => absurd h (by decide), fun h => absurd h (by decide), fun h => absurd h (by decide), fun _ => .inr ⟨rfl, rfl⟩, fun h => absurd h (by decide), fun h => absurd h (by decide)⟩))
      · exact x_ix (T.get (i := 0) rfl) (atI_nat (j := 5) rfl) (x_ix (T.get (i := 1) rfl) (atI_nat (j := 0) rfl) (nb (by decide)))
      · exact x_ix (T.get (i := 0) rfl) (atI_nat (j := 6) rfl) (x_ix (T.get (i := 1) rfl) (atI_nat (j := 1) rfl) (q _ _ T.same ⟨fun h => absurd h (by decide), fun h => absurd h (by decide), fun h => absurd h (by decide), fun h => absurd h (by decide), fun h => absurd h (by decide), fun _ => .inr ⟨rfl, rfl⟩, fun h => absurd h (by decide)⟩))
      · exact x_ix (T.get (i := 0) rfl) (atI_nat (j := 7) rfl) (x_ix (T.get (i := 1) rfl) (atI_nat (j := 1) rfl) (q _ _ T.same ⟨fun h => absurd h (by decide), fun h => absurd h (by decide), fun h => absurd h (by decide), fun h => absurd h (by decide), fun h => absurd h (by decide), fun _ => .inr ⟨rfl, rfl⟩, fun h => absurd h (by decide)⟩))
      · exact x_ix (T.get (i := 0) rfl) (atI_nat (j := 9) rfl) (x_ix (T.get (i := 1) rfl) (atI_nat (j := 0) rfl) (nb (by decide)))
      · exact x_ix (T.get (i := 0) rfl) (atI_nat (j := 10) rfl) (x_ix (T.get (i := 1) rfl) (atI_nat (j := 0) rfl) (nb (by decide)))
      · exact x_ix (T.get (i := 0) rfl) (atI_nat (j := 11) rfl) (x_ix (T.get (i := 1) rfl) (atI_nat (j := 2) rfl) (q _ _ T.same ⟨fun h => absurd h (by decide), fun h => absurd h (by decide), fun h => absurd h (by decide), fun _ => .inr ⟨rfl, rfl⟩, fun h => absurd h (by decide), fun h => absurd h (by decide), fun h => absurd h (by decide)⟩))
      · exact x_ix (T.get (i := 0) rfl) (atI_nat (j := 12) rfl) (x_ix (T.get (i := 1) rfl) (atI_nat (j := 0) rfl) (nb (by decide)))
      · exact x_ix (T.get (i := 0) rfl) (atI_nat (j := 13) rfl) (x_ix (T.get (i := 1) rfl) (atI_nat (j := 0) rfl) (nb (by decide)))
      · exact x_ix (T.get (i := 0) rfl) (atI_nat (j := 14) rfl) (x_ix (T.get (i := 1) rfl) (atI_nat (j := 0) rfl) (q _ _ T.same ⟨fun h => absurd h (by decide), fun _ => ⟨some ((1 : Nat) : Int), .int _, figB_nat (by omega)⟩, fun h => absurd h (by decide), fun h => absurd h (by decide), fun h => absurd h (by decide), fun h => absurd h (by decide), fun h => absurd h (by decide)⟩))
      · exact x_ix (T.get (i := 0) rfl) (atI_nat (j := 15) rfl) (x_ix (T.get (i := 1) rfl) (atI_nat (j := 1) rfl) (q _ _ T.same ⟨fun h => absurd h (by decide), fun h => absurd h (by decide), fun h => absurd h (by decide), fun h => absurd h (by decide), fun h => absurd h (by decide), fun h => absurd h (by decide), fun _ => ⟨.inl rfl, .inr ⟨rfl, rfl⟩⟩⟩))
    · have h1' : ¬ ce % 2 = 0 := of_decide_eq_false h1
      walk_at "s"
      exact hk _ _ ⟨rfl, T, by omega⟩
  clear T hA
  rintro σ' H1 ⟨rfl, T, hC⟩
  rw [decide_eq_true hC] at q
  walk_at "p"
  refine x_mid (fun σ' H' => σ' = [some (.int wh), some (.int (b : Int)), some (.int ce)] ∧ Trk H H' [] ∧ wh ≠ 3 ∧ wh ≠ 8 ∧ wh ≠ 14) ?_ ?_
  · intro R hk
    walk_at "s"
    refine t_tup T (Nat.le_of_ble_eq_true rfl) fun p0 T => ?_
    walk_at "s"
    refine .inl (x_inI [3, 8, 14] (by walk_at "fact") ?_)
    have T := T.take 0
    walk_at "s"
    refine if2 (fun h1 => ?_) (fun h1 => ?_)
    · have h1' : wh = 3 ∨ wh = 8 ∨ wh = 14 := by
        have := of_decide_eq_true h1
        simp only [List.mem_cons, List.not_mem_nil, or_false] at this
        exact this
      walk_at "s"
      refine t_new T (Nat.le_of_ble_eq_true rfl) fun p1 T => ?_
      walk_at "s"
      refine t_tup T (Nat.le_of_ble_eq_true rfl) fun p2 T => ?_
      walk_at "s"
      refine t_new T (Nat.le_of_ble_eq_true rfl) fun p3 T => ?_
      walk_at "s"
      refine x_I ⟨by decide, by decide⟩ ?_
      walk_at "s"
      refine x_I (by decide) ?_
      have h3 : 0 ≤ ce / 2 % 8 ∧ ce / 2 % 8 < 8 := by omega
      generalize ce / 2 % 8 = k at *
      obtain ⟨v, o, e, hf, hkd⟩ := bad_fig1 (b := b) (p1 := p1) (p2 := p2) k h3
      have hkv := hkd _ (T.get (i := 2) rfl) (T.get (i := 1) rfl)
      refine x_ix (T.get (i := 0) rfl) e ?_
      exact q _ _ T.same ⟨fun _ => .inl ⟨rfl, o, hkv, hf⟩, fun _ => ⟨o, hkv, hf⟩, fun h => absurd h (by omega), fun h => absurd h (by omega), fun h => absurd h (by omega), fun h => absurd h (by omega), fun h => absurd h (by omega)⟩
    · have h1' : ¬ (wh = 3 ∨ wh = 8 ∨ wh = 14) := fun h => of_decide_eq_false h1 (by
        simp only [List.mem_cons, List.not_mem_nil, or_false]
        exact h)
      walk_at "s"
      exact hk _ _ ⟨rfl, T, by omega⟩
  clear T
  rintro σ' H1 ⟨rfl, T, hD⟩
  walk_at "p"
  refine x_mid (fun σ' H' => σ' = [some (.int wh), some (.int (b : Int)), some (.int ce)] ∧ Trk H H' [] ∧ wh ≠ 11) ?_ ?_
  · intro R hk
    walk_at "s"
    refine if2 (fun h1 => ?_) (fun h1 => ?_)
    · have h1' : wh = 11 := of_decide_eq_true h1
      subst h1'
      walk_at "s"
      refine t_new T (Nat.le_of_ble_eq_true rfl) fun p1 T => ?_
      walk_at "s"
      refine x_I ⟨by decide, by decide⟩ ?_
      walk_at "s"
      refine x_I (by decide) ?_
      have h3 : 0 ≤ ce / 2 % 7 ∧ ce / 2 % 7 < 7 := by omega
      have fin : ∀ {t : V} {o : Option Int}, Kd _ t o → isB o = false → Q t _ := fun {t o} h1 h2 => q t _ T.same ⟨fun h => absurd h (by decide), fun h => absurd h (by decide), fun h => absurd h (by decide), fun _ => .inl ⟨rfl, o, h1, h2⟩, fun h => absurd h (by decide), fun h => absurd h (by decide), fun h => absurd h (by decide)⟩
      generalize ce / 2 % 7 = k at *
      have h4 : k = 0 ∨ k = 1 ∨ k = 2 ∨ k = 3 ∨ k = 4 ∨ k = 5 ∨ k = 6 := by omega
      rcases h4 with rfl | rfl | rfl | rfl | rfl | rfl | rfl
      · exact x_ix (T.get (i := 0) rfl) (atI_nat (j := 0) rfl) (fin (.int _) rfl)
      · exact x_ix (T.get (i := 0) rfl) (atI_nat (j := 1) rfl) (fin (.int _) rfl)
      · exact x_ix (T.get (i := 0) rfl) (atI_nat (j := 2) rfl) (fin (.bl _) rfl)
      · exact x_ix (T.get (i := 0) rfl) (atI_nat (j := 3) rfl) (fin (.int _) rfl)
      · exact x_ix (T.get (i := 0) rfl) (atI_nat (j := 4) rfl) (fin (.str _) rfl)
      · exact x_ix (T.get (i := 0) rfl) (atI_nat (j := 5) rfl) (fin .non rfl)
      · exact x_ix (T.get (i := 0) rfl) (atI_nat (j := 6) rfl) (fin (.int _) rfl)
    · walk_at "s"
      exact hk _ _ ⟨rfl, T, of_decide_eq_false h1⟩
  clear T
  rintro σ' H1 ⟨rfl, T, hE⟩
  walk_at "p"
  refine x_mid (fun σ' H' => σ' = [some (.int wh), some (.int (b : Int)), some (.int ce)] ∧ Trk H H' [] ∧ wh ≠ 4) ?_ ?_
  · intro R hk
    walk_at "s"
    refine if2 (fun h1 => ?_) (fun h1 => ?_)
    · have h1' : wh = 4 := of_decide_eq_true h1
      subst h1'
      walk_at "s"
      refine t_new T (Nat.le_of_ble_eq_true rfl) fun p1 T => ?_
      walk_at "s"
      refine t_new T (Nat.le_of_ble_eq_true rfl) fun p2 T => ?_
      walk_at "s"
      refine x_I ⟨by decide, by decide⟩ ?_
      walk_at "s"
      refine x_I (by decide) ?_
      have h3 : 0 ≤ ce / 2 % 6 ∧ ce / 2 % 6 < 6 := by omega
      have fin : ∀ {t : V} {o : Option Int}, Kd _ t o → cntB 0 o = false → Q t _ := fun {t o} h1 h2 => q t _ T.same ⟨fun h => absurd h (by decide), fun h => absurd h (by decide), fun h => absurd h (by decide), fun h => absurd h (by decide), fun _ => .inl ⟨rfl, o, h1, h2⟩, fun h => absurd h (by decide), fun h => absurd h (by decide)⟩
      have hp1 := T.get (i := 1) rfl
      generalize ce / 2 % 6 = k at *
      have h4 : k = 0 ∨ k = 1 ∨ k = 2 ∨ k = 3 ∨ k = 4 ∨ k = 5 := by omega
      rcases h4 with rfl | rfl | rfl | rfl | rfl | rfl
      · exact x_ix (T.get (i := 0) rfl) (atI_nat (j := 0) rfl) (fin (.int _) rfl)
      · exact x_ix (T.get (i := 0) rfl) (atI_nat (j := 1) rfl) (fin (.bl _) rfl)
      · exact x_ix (T.get (i := 0) rfl) (atI_nat (j := 2) rfl) (fin (.str _) rfl)
      · exact x_ix (T.get (i := 0) rfl) (atI_nat (j := 3) rfl) (fin .non rfl)
      · exact x_ix (T.get (i := 0) rfl) (atI_nat (j := 4) rfl) (fin (.int _) rfl)
      · exact x_ix (T.get (i := 0) rfl) (atI_nat (j := 5) rfl) (fin (.lst hp1) rfl)
    · walk_at "s"
      exact hk _ _ ⟨rfl, T, of_decide_eq_false h1⟩
  clear T
  rintro σ' H1 ⟨rfl, T, hF⟩
  walk_at "p"
  refine x_mid (fun σ' H' => σ' = [some (.int wh), some (.int (b : Int)), some (.int ce)] ∧ Trk H H' [] ∧ wh ≠ 6 ∧ wh ≠ 7) ?_ ?_
  · intro R hk
    have six : wh = 6 ∨ wh = 7 → ∀ {t : V} {o : Option Int} {H' : Hp}, Same H H' → Kd H' t o → cntB 3 o = false → Q t H' := fun hw {t o H'} s h1 h2 => q t _ s ⟨fun h => absurd h (by omega), fun h => absurd h (by omega), fun h => absurd h (by omega), fun h => absurd h (by omega), fun h => absurd h (by omega), fun _ => .inl ⟨rfl, o, h1, h2⟩, fun h => absurd h (by omega)⟩
    have h3 : 0 ≤ ce / 2 % 7 ∧ ce / 2 % 7 < 7 := by omega
    have pick : ∀ {k : Int} {p1 p2 : Addr} {H' : Hp}, wh = 6 ∨ wh = 7 → 0 ≤ k ∧ k < 7 → Trk H H' [(p2, .lst [.int 2, .bl false, .str "3", .non, .int 0, .int (-7), .ref p1]), (p1, .tup [.int 3])] → rIxL K (.ref p2) (.int k) H' Q := fun {k p1 p2 H'} hw h3 T => by
      have fin : ∀ {t : V} {o : Option Int}, Kd H' t o → cntB 3 o = false → Q t H' := fun h1 h2 => six hw T.same h1 h2
      have hp1 := T.get (i := 1) rfl
      have h4 : k = 0 ∨ k = 1 ∨ k = 2 ∨ k = 3 ∨ k = 4 ∨ k = 5 ∨ k = 6 := by omega
      rcases h4 with rfl | rfl | rfl | rfl | rfl | rfl | rfl
      · exact x_ix (T.get (i := 0) rfl) (atI_nat (j := 0) rfl) (fin (.int _) rfl)
      · exact x_ix (T.get (i := 0) rfl) (atI_nat (j := 1) rfl) (fin (.bl _) rfl)
      · exact x_ix (T.get (i := 0) rfl) (atI_nat (j := 2) rfl) (fin (.str _) rfl)
      · exact x_ix (T.get (i := 0) rfl) (atI_nat (j := 3) rfl) (fin .non rfl)
      · exact x_ix (T.get (i := 0) rfl) (atI_nat (j := 4) rfl) (fin (.int _) rfl)
      · exact x_ix (T.get (i := 0) rfl) (atI_nat (j := 5) rfl) (fin (.int _) rfl)
      · exact x_ix (T.get (i := 0) rfl) (atI_nat (j := 6) rfl) (fin (.tup hp1) rfl)
    walk_at "s"
    refine if2 (fun h1 => ?_) (fun h1 => ?_)
    · have h1' : wh = 6 := of_decide_eq_true h1
      walk_at "s"
      refine t_tup T (Nat.le_of_ble_eq_true rfl) fun p1 T => ?_
      walk_at "s"
      refine t_new T (Nat.le_of_ble_eq_true rfl) fun p2 T => ?_
      walk_at "s"
      refine x_I ⟨by decide, by decide⟩ ?_
      walk_at "s"
      refine x_I (by decide) ?_
      exact pick (.inl h1') h3 T
    · have h1' : ¬ wh = 6 := of_decide_eq_false h1
      walk_at "s"
      refine if2 (fun h2 => ?_) (fun h2 => ?_)
      · have h2' : wh = 7 := of_decide_eq_true h2
        walk_at "s"
        refine t_tup T (Nat.le_of_ble_eq_true rfl) fun p1 T => ?_
        walk_at "s"
        refine t_new T (Nat.le_of_ble_eq_true rfl) fun p2 T => ?_
        walk_at "s"
        refine x_I ⟨by decide, by decide⟩ ?_
        walk_at "s"
        refine x_I (by decide) ?_
        exact pick (.inr h2') h3 T
      · walk_at "s"
        exact hk _ _ ⟨rfl, T, h1', of_decide_eq_false h2⟩
  clear T
  rintro σ' H1 ⟨rfl, T, hG⟩
  walk_at "s"
  refine t_new T (Nat.le_of_ble_eq_true rfl) fun p1 T => ?_
  walk_at "s"
  refine t_new T (Nat.le_of_ble_eq_true rfl) fun p2 T => ?_
  walk_at "s"
  refine x_I ⟨by decide, by decide⟩ ?_
  walk_at "s"
  refine x_I (by decide) ?_
  have h3 : 0 ≤ ce / 2 % 6 ∧ ce / 2 % 6 < 6 := by omega
  have fin : ∀ {t : V}, (flatV t = true ∨ ∃ a xs, t = .ref a ∧ _ = some (HO.lst xs)) → ((Kd _ t none ∧ negB t = false) ∨ ∃ i : Int, t = .int i ∧ i < 0 ∧ negB t = true) → Q t _ := fun {t} h1 h2 => q t _ T.same ⟨fun h => absurd h (by omega), fun h => absurd h (by omega), fun h => absurd h (by omega), fun h => absurd h (by omega), fun h => absurd h (by omega), fun h => absurd h (by omega), fun _ => ⟨h1, .inl ⟨rfl, h2⟩⟩⟩
  have hp1 := T.get (i := 1) rfl
  generalize ce / 2 % 6 = k at *
  have h4 : k = 0 ∨ k = 1 ∨ k = 2 ∨ k = 3 ∨ k = 4 ∨ k = 5 := by omega
  rcases h4 with rfl | rfl | rfl | rfl | rfl | rfl
  · exact x_ix (T.get (i := 0) rfl) (atI_nat (j := 0) rfl) (fin (.inl rfl) (.inr ⟨-1, rfl, by decide, rfl⟩))
  · exact x_ix (T.get (i := 0) rfl) (atI_nat (j := 1) rfl) (fin (.inl rfl) (.inl ⟨.bl _, rfl⟩))
  · exact x_ix (T.get (i := 0) rfl) (atI_nat (j := 2) rfl) (fin (.inl rfl) (.inl ⟨.str _, rfl⟩))
  · exact x_ix (T.get (i := 0) rfl) (atI_nat (j := 3) rfl) (fin (.inl rfl) (.inl ⟨.non, rfl⟩))
  · exact x_ix (T.get (i := 0) rfl) (atI_nat (j := 4) rfl) (fin (.inl rfl) (.inr ⟨-7, rfl, by decide, rfl⟩))
  · exact x_ix (T.get (i := 0) rfl) (atI_nat (j := 5) rfl) (fin (.inr ⟨_, _, rfl, hp1⟩) (.inl ⟨.lst hp1, rfl⟩))

/-! ### which outcome each call has -/
def BaseR (H : Hp) (b : Nat) (good : Bool) (x : V) : Prop := (good = false ∧ ∃ o, Kd H x o ∧ isB o = false) ∨ (good = true ∧ x = .int (b : Int))
def RowG (H : Hp) (b : Nat) (y : V) (bad : Bool) (C : Nat → Prop) : Prop := (bad = true ∧ RowK H b y false) ∨ (bad = false ∧ ∃ (a : Addr) (n : Nat), y = .ref a ∧ H a = some (.lst (dig b n)) ∧ (digits b n).length ≤ 100 ∧ C n)
def OneN (b n : Nat) : Prop := n = 1 + b
def OtherN (b n : Nat) : Prop := (n = 1 ∧ digits b n = [1]) ∨ (n = 0 ∧ digits b n = []) ∨ (1 + b < n ∧ digits b n = [1, 1, 1])
theorem BaseR.mono {H H' : Hp} {b : Nat} {good : Bool} {x : V} (h : BaseR H b good x) (s : Same H H') : BaseR H' b good x := by
  rcases h with ⟨e, o, hk, hi⟩ | h
  · exact .inl ⟨e, o, hk.mono s, hi⟩
  · exact .inr h
theorem RowG.mono {H H' : Hp} {b : Nat} {bad : Bool} {y : V} {C : Nat → Prop} (h : RowG H b y bad C) (s : Same H H') : RowG H' b y bad C := by
  rcases h with ⟨e, hk⟩ | ⟨e, a, n, e2, ha, hl, hc⟩
  · exact .inl ⟨e, hk.mono s⟩
  · exact .inr ⟨e, a, n, e2, s _ _ ha, hl, hc⟩
def twoB (wh : Int) : Bool := decide (wh ∈ [1, 2, 5, 6, 7, 9, 10])
def dueD (wh : Int) (good bad1 bad2 bad3 : Bool) (t : V) : Str := dueW wh good (!bad1 && !(twoB wh && bad2)) t bad3
def Due1 (K : PySem.W.Frag) (H : Hp) (wh : Int) (x y1 y2 t : V) (d : Str) : Prop := ∃ oc, d = ocW oc ∧ ocW oc ≠ "" ∧ ∀ E Q, OutP K H E Q oc → CallG K H wh x y1 y2 t E Q
def Due2 (K : PySem.W.Frag) (H : Hp) (b : Nat) (wh : Int) (x y1 y2 t : V) (bad1 bad3 : Bool) (d : Str) : Prop := d = "" ∧ x = .int (b : Int) ∧ (wh = 13 → RowK H b y1 (!bad1)) ∧ (wh = 14 → ∃ o, Kd H t o ∧ figB b o = !bad3) ∧ ∃ oc, CannotR H wh y2 t (ocW oc) ∧ ∀ E Q, OutP K H E Q oc → CallG K H wh x y1 y2 t E Q
section
variable {K : PySem.W.Frag} {H : Hp} {b : Nat} {wh : Int} {x y1 y2 t : V} {good bad1 bad2 bad3 : Bool}
theorem dueD_base : dueD wh false bad1 bad2 bad3 t = ocW .baseO := rfl
theorem due15 : dueD 15 true bad1 bad2 true t = if negB t = true then ("below" : Str) else "count" := rfl
theorem cannot_no (h1 : wh ≠ 2) (h2 : wh ≠ 9) (h3 : wh ≠ 8) : CannotR H wh y2 t (ocW .ret) := .inr (.inr (.inr ⟨h1, h2, h3, rfl⟩))
theorem law_oc0 (hb : 2 ≤ b ∧ b ≤ 1000000) (hx : BaseR H b good x) (h1 : RowG H b y1 bad1 (OneN b)) (h2 : RowG H b y2 bad2 (OtherN b)) (ht : ThirdR H 0 b bad3 t) : Due1 K H 0 x y1 y2 t (dueD 0 good bad1 bad2 bad3 t) ∨ Due2 K H b 0 x y1 y2 t bad1 bad3 (dueD 0 good bad1 bad2 bad3 t) := by
  rcases hx with ⟨rfl, o, hk, hi⟩ | ⟨rfl, rfl⟩
  · exact .inl ⟨.baseO, rfl, by decide, fun E Q h => (Or.inl ⟨rfl, _, _, rfl, .inl ⟨o, hk, hi, h⟩⟩)⟩
  rcases h1 with ⟨rfl, hr1⟩ | ⟨rfl, a1, n1, rfl, ha1, hl1, hn1⟩
  · exact .inl ⟨.rowO, rfl, by decide, fun E Q h => (Or.inl ⟨rfl, _, _, rfl, .inr ⟨b, rfl, hb, .inl ⟨hr1, h⟩⟩⟩)⟩
  exact .inr ⟨rfl, rfl, fun h => absurd h (by decide), fun h => absurd h (by decide), .ret, cannot_no (by decide) (by decide) (by decide), fun E Q h => (Or.inl ⟨rfl, _, _, rfl, .inr ⟨b, rfl, hb, .inr ⟨a1, _, rfl, ha1, hl1, h⟩⟩⟩)⟩
theorem law_oc1 (hb : 2 ≤ b ∧ b ≤ 1000000) (hx : BaseR H b good x) (h1 : RowG H b y1 bad1 (OneN b)) (h2 : RowG H b y2 bad2 (OtherN b)) (ht : ThirdR H 1 b bad3 t) : Due1 K H 1 x y1 y2 t (dueD 1 good bad1 bad2 bad3 t) ∨ Due2 K H b 1 x y1 y2 t bad1 bad3 (dueD 1 good bad1 bad2 bad3 t) := by
  rcases hx with ⟨rfl, o, hk, hi⟩ | ⟨rfl, rfl⟩
  · exact .inl ⟨.baseO, rfl, by decide, fun E Q h => (Or.inr (Or.inl ⟨rfl, _, _, _, rfl, .inl ⟨o, hk, hi, h⟩⟩))⟩
  rcases h1 with ⟨rfl, hr1⟩ | ⟨rfl, a1, n1, rfl, ha1, hl1, hn1⟩
  · exact .inl ⟨.rowO, rfl, by decide, fun E Q h => (Or.inr (Or.inl ⟨rfl, _, _, _, rfl, .inr ⟨b, rfl, hb, .inl ⟨hr1, h⟩⟩⟩))⟩
  rcases h2 with ⟨rfl, hr2⟩ | ⟨rfl, a2, n2, rfl, ha2, hl2, hn2⟩
  · exact .inl ⟨.rowO, rfl, by decide, fun E Q h => (Or.inr (Or.inl ⟨rfl, _, _, _, rfl, .inr ⟨b, rfl, hb, .inr ⟨a1, _, rfl, ha1, hl1, .inl ⟨hr2, h⟩⟩⟩⟩))⟩
  exact .inr ⟨rfl, rfl, fun h => absurd h (by decide), fun h => absurd h (by decide), .ret, cannot_no (by decide) (by decide) (by decide), fun E Q h => (Or.inr (Or.inl ⟨rfl, _, _, _, rfl, .inr ⟨b, rfl, hb, .inr ⟨a1, _, rfl, ha1, hl1, .inr ⟨a2, _, rfl, ha2, hl2, h⟩⟩⟩⟩))⟩
theorem law_oc2 (hb : 2 ≤ b ∧ b ≤ 1000000) (hx : BaseR H b good x) (h1 : RowG H b y1 bad1 (OneN b)) (h2 : RowG H b y2 bad2 (OtherN b)) (ht : ThirdR H 2 b bad3 t) : Due1 K H 2 x y1 y2 t (dueD 2 good bad1 bad2 bad3 t) ∨ Due2 K H b 2 x y1 y2 t bad1 bad3 (dueD 2 good bad1 bad2 bad3 t) := by
  rcases hx with ⟨rfl, o, hk, hi⟩ | ⟨rfl, rfl⟩
  · exact .inl ⟨.baseO, rfl, by decide, fun E Q h => (Or.inr (Or.inr (Or.inl ⟨rfl, _, _, _, rfl, .inl ⟨o, hk, hi, h⟩⟩)))⟩
  rcases h1 with ⟨rfl, hr1⟩ | ⟨rfl, a1, n1, rfl, ha1, hl1, hn1⟩
  · exact .inl ⟨.rowO, rfl, by decide, fun E Q h => (Or.inr (Or.inr (Or.inl ⟨rfl, _, _, _, rfl, .inr ⟨b, rfl, hb, .inl ⟨hr1, h⟩⟩⟩)))⟩
  rcases h2 with ⟨rfl, hr2⟩ | ⟨rfl, a2, n2, rfl, ha2, hl2, hn2⟩
  · exact .inl ⟨.rowO, rfl, by decide, fun E Q h => (Or.inr (Or.inr (Or.inl ⟨rfl, _, _, _, rfl, .inr ⟨b, rfl, hb, .inr ⟨a1, _, rfl, ha1, hl1, .inl ⟨hr2, h⟩⟩⟩⟩)))⟩
  cases hn1
  rcases hn2 with ⟨rfl, e⟩ | ⟨rfl, e⟩ | ⟨hlt, e⟩
  · exact .inr ⟨rfl, rfl, fun h => absurd h (by decide), fun h => absurd h (by decide), .ret, .inl ⟨rfl, a2, _, rfl, ha2, by rw [e]; rfl⟩, fun E Q h => (Or.inr (Or.inr (Or.inl ⟨rfl, _, _, _, rfl, .inr ⟨b, rfl, hb, .inr ⟨a1, _, rfl, ha1, hl1, .inr ⟨a2, _, rfl, ha2, hl2, .inl ⟨by omega, h⟩⟩⟩⟩⟩)))⟩
  · exact .inr ⟨rfl, rfl, fun h => absurd h (by decide), fun h => absurd h (by decide), .ret, .inl ⟨rfl, a2, _, rfl, ha2, by rw [e]; rfl⟩, fun E Q h => (Or.inr (Or.inr (Or.inl ⟨rfl, _, _, _, rfl, .inr ⟨b, rfl, hb, .inr ⟨a1, _, rfl, ha1, hl1, .inr ⟨a2, _, rfl, ha2, hl2, .inl ⟨by omega, h⟩⟩⟩⟩⟩)))⟩
  · exact .inr ⟨rfl, rfl, fun h => absurd h (by decide), fun h => absurd h (by decide), .belowO, .inl ⟨rfl, a2, _, rfl, ha2, by rw [e]; rfl⟩, fun E Q h => (Or.inr (Or.inr (Or.inl ⟨rfl, _, _, _, rfl, .inr ⟨b, rfl, hb, .inr ⟨a1, _, rfl, ha1, hl1, .inr ⟨a2, _, rfl, ha2, hl2, .inr ⟨hlt, h⟩⟩⟩⟩⟩)))⟩
theorem law_oc3 (hb : 2 ≤ b ∧ b ≤ 1000000) (hx : BaseR H b good x) (h1 : RowG H b y1 bad1 (OneN b)) (h2 : RowG H b y2 bad2 (OtherN b)) (ht : ThirdR H 3 b bad3 t) : Due1 K H 3 x y1 y2 t (dueD 3 good bad1 bad2 bad3 t) ∨ Due2 K H b 3 x y1 y2 t bad1 bad3 (dueD 3 good bad1 bad2 bad3 t) := by
  rcases hx with ⟨rfl, o, hk, hi⟩ | ⟨rfl, rfl⟩
  · exact .inl ⟨.baseO, rfl, by decide, fun E Q h => (Or.inr (Or.inr (Or.inr (Or.inl ⟨rfl, _, _, _, rfl, .inl ⟨o, hk, hi, h⟩⟩))))⟩
  rcases h1 with ⟨rfl, hr1⟩ | ⟨rfl, a1, n1, rfl, ha1, hl1, hn1⟩
  · exact .inl ⟨.rowO, rfl, by decide, fun E Q h => (Or.inr (Or.inr (Or.inr (Or.inl ⟨rfl, _, _, _, rfl, .inr ⟨b, rfl, hb, .inl ⟨hr1, h⟩⟩⟩))))⟩
  rcases ht.f38 (by decide) with ⟨rfl, o, hk, hf⟩ | ⟨rfl, rfl | rfl⟩
  · exact .inl ⟨.figureO, rfl, by decide, fun E Q h => (Or.inr (Or.inr (Or.inr (Or.inl ⟨rfl, _, _, _, rfl, .inr ⟨b, rfl, hb, .inr ⟨a1, _, rfl, ha1, hl1, .inl ⟨o, hk, hf, h⟩⟩⟩⟩))))⟩
  · exact .inr ⟨rfl, rfl, fun h => absurd h (by decide), fun h => absurd h (by decide), .ret, cannot_no (by decide) (by decide) (by decide), fun E Q h => (Or.inr (Or.inr (Or.inr (Or.inl ⟨rfl, _, _, _, rfl, .inr ⟨b, rfl, hb, .inr ⟨a1, _, rfl, ha1, hl1, .inr ⟨0, rfl, by omega, h⟩⟩⟩⟩))))⟩
  · exact .inr ⟨rfl, rfl, fun h => absurd h (by decide), fun h => absurd h (by decide), .ret, cannot_no (by decide) (by decide) (by decide), fun E Q h => (Or.inr (Or.inr (Or.inr (Or.inl ⟨rfl, _, _, _, rfl, .inr ⟨b, rfl, hb, .inr ⟨a1, _, rfl, ha1, hl1, .inr ⟨1, rfl, by omega, h⟩⟩⟩⟩))))⟩
theorem law_oc4 (hb : 2 ≤ b ∧ b ≤ 1000000) (hx : BaseR H b good x) (h1 : RowG H b y1 bad1 (OneN b)) (h2 : RowG H b y2 bad2 (OtherN b)) (ht : ThirdR H 4 b bad3 t) : Due1 K H 4 x y1 y2 t (dueD 4 good bad1 bad2 bad3 t) ∨ Due2 K H b 4 x y1 y2 t bad1 bad3 (dueD 4 good bad1 bad2 bad3 t) := by
  rcases hx with ⟨rfl, o, hk, hi⟩ | ⟨rfl, rfl⟩
  · exact .inl ⟨.baseO, rfl, by decide, fun E Q h => (Or.inr (Or.inr (Or.inr (Or.inr (Or.inl ⟨rfl, _, _, _, rfl, .inl ⟨o, hk, hi, h⟩⟩)))))⟩
  rcases h1 with ⟨rfl, hr1⟩ | ⟨rfl, a1, n1, rfl, ha1, hl1, hn1⟩
  · exact .inl ⟨.rowO, rfl, by decide, fun E Q h => (Or.inr (Or.inr (Or.inr (Or.inr (Or.inl ⟨rfl, _, _, _, rfl, .inr ⟨b, rfl, hb, .inl ⟨hr1, h⟩⟩⟩)))))⟩
  rcases ht.f4 (by decide) with ⟨rfl, o, hk, hf⟩ | ⟨rfl, rfl⟩
  · exact .inl ⟨.countO, rfl, by decide, fun E Q h => (Or.inr (Or.inr (Or.inr (Or.inr (Or.inl ⟨rfl, _, _, _, rfl, .inr ⟨b, rfl, hb, .inr ⟨a1, _, rfl, ha1, hl1, .inl ⟨o, hk, hf, h⟩⟩⟩⟩)))))⟩
  exact .inr ⟨rfl, rfl, fun h => absurd h (by decide), fun h => absurd h (by decide), .ret, cannot_no (by decide) (by decide) (by decide), fun E Q h => (Or.inr (Or.inr (Or.inr (Or.inr (Or.inl ⟨rfl, _, _, _, rfl, .inr ⟨b, rfl, hb, .inr ⟨a1, _, rfl, ha1, hl1, .inr ⟨3, rfl, by decide, by decide, h⟩⟩⟩⟩)))))⟩
theorem law_oc5 (hb : 2 ≤ b ∧ b ≤ 1000000) (hx : BaseR H b good x) (h1 : RowG H b y1 bad1 (OneN b)) (h2 : RowG H b y2 bad2 (OtherN b)) (ht : ThirdR H 5 b bad3 t) : Due1 K H 5 x y1 y2 t (dueD 5 good bad1 bad2 bad3 t) ∨ Due2 K H b 5 x y1 y2 t bad1 bad3 (dueD 5 good bad1 bad2 bad3 t) := by
  rcases hx with ⟨rfl, o, hk, hi⟩ | ⟨rfl, rfl⟩
  · exact .inl ⟨.baseO, rfl, by decide, fun E Q h => (Or.inr (Or.inr (Or.inr (Or.inr (Or.inr (Or.inl ⟨rfl, _, _, _, rfl, .inl ⟨o, hk, hi, h⟩⟩))))))⟩
  rcases h1 with ⟨rfl, hr1⟩ | ⟨rfl, a1, n1, rfl, ha1, hl1, hn1⟩
  · exact .inl ⟨.rowO, rfl, by decide, fun E Q h => (Or.inr (Or.inr (Or.inr (Or.inr (Or.inr (Or.inl ⟨rfl, _, _, _, rfl, .inr ⟨b, rfl, hb, .inl ⟨hr1, h⟩⟩⟩))))))⟩
  rcases h2 with ⟨rfl, hr2⟩ | ⟨rfl, a2, n2, rfl, ha2, hl2, hn2⟩
  · exact .inl ⟨.rowO, rfl, by decide, fun E Q h => (Or.inr (Or.inr (Or.inr (Or.inr (Or.inr (Or.inl ⟨rfl, _, _, _, rfl, .inr ⟨b, rfl, hb, .inr ⟨a1, _, rfl, ha1, hl1, .inl ⟨hr2, h⟩⟩⟩⟩))))))⟩
  exact .inr ⟨rfl, rfl, fun h => absurd h (by decide), fun h => absurd h (by decide), .ret, cannot_no (by decide) (by decide) (by decide), fun E Q h => (Or.inr (Or.inr (Or.inr (Or.inr (Or.inr (Or.inl ⟨rfl, _, _, _, rfl, .inr ⟨b, rfl, hb, .inr ⟨a1, _, rfl, ha1, hl1, .inr ⟨a2, _, rfl, ha2, hl2, h⟩⟩⟩⟩))))))⟩
theorem law_oc6 (hb : 2 ≤ b ∧ b ≤ 1000000) (hx : BaseR H b good x) (h1 : RowG H b y1 bad1 (OneN b)) (h2 : RowG H b y2 bad2 (OtherN b)) (ht : ThirdR H 6 b bad3 t) : Due1 K H 6 x y1 y2 t (dueD 6 good bad1 bad2 bad3 t) ∨ Due2 K H b 6 x y1 y2 t bad1 bad3 (dueD 6 good bad1 bad2 bad3 t) := by
  rcases hx with ⟨rfl, o, hk, hi⟩ | ⟨rfl, rfl⟩
  · exact .inl ⟨.baseO, rfl, by decide, fun E Q h => (Or.inr (Or.inr (Or.inr (Or.inr (Or.inr (Or.inr (Or.inl ⟨rfl, _, _, _, _, rfl, .inl ⟨o, hk, hi, h⟩⟩)))))))⟩
  rcases h1 with ⟨rfl, hr1⟩ | ⟨rfl, a1, n1, rfl, ha1, hl1, hn1⟩
  · exact .inl ⟨.rowO, rfl, by decide, fun E Q h => (Or.inr (Or.inr (Or.inr (Or.inr (Or.inr (Or.inr (Or.inl ⟨rfl, _, _, _, _, rfl, .inr ⟨b, rfl, hb, .inl ⟨hr1, h⟩⟩⟩)))))))⟩
  rcases h2 with ⟨rfl, hr2⟩ | ⟨rfl, a2, n2, rfl, ha2, hl2, hn2⟩
  · exact .inl ⟨.rowO, rfl, by decide, fun E Q h => (Or.inr (Or.inr (Or.inr (Or.inr (Or.inr (Or.inr (Or.inl ⟨rfl, _, _, _, _, rfl, .inr ⟨b, rfl, hb, .inr ⟨a1, _, rfl, ha1, hl1, .inl ⟨hr2, h⟩⟩⟩⟩)))))))⟩
  rcases ht.f67 (by decide) with ⟨rfl, o, hk, hf⟩ | ⟨rfl, rfl⟩
  · exact .inl ⟨.countO, rfl, by decide, fun E Q h => (Or.inr (Or.inr (Or.inr (Or.inr (Or.inr (Or.inr (Or.inl ⟨rfl, _, _, _, _, rfl, .inr ⟨b, rfl, hb, .inr ⟨a1, _, rfl, ha1, hl1, .inr ⟨a2, _, rfl, ha2, hl2, .inl ⟨o, hk, hf, h⟩⟩⟩⟩⟩)))))))⟩
  exact .inr ⟨rfl, rfl, fun h => absurd h (by decide), fun h => absurd h (by decide), .ret, cannot_no (by decide) (by decide) (by decide), fun E Q h => (Or.inr (Or.inr (Or.inr (Or.inr (Or.inr (Or.inr (Or.inl ⟨rfl, _, _, _, _, rfl, .inr ⟨b, rfl, hb, .inr ⟨a1, _, rfl, ha1, hl1, .inr ⟨a2, _, rfl, ha2, hl2, .inr ⟨3, rfl, by decide, by decide, h⟩⟩⟩⟩⟩)))))))⟩
theorem law_oc7 (hb : 2 ≤ b ∧ b ≤ 1000000) (hx : BaseR H b good x) (h1 : RowG H b y1 bad1 (OneN b)) (h2 : RowG H b y2 bad2 (OtherN b)) (ht : ThirdR H 7 b bad3 t) : Due1 K H 7 x y1 y2 t (dueD 7 good bad1 bad2 bad3 t) ∨ Due2 K H b 7 x y1 y2 t bad1 bad3 (dueD 7 good bad1 bad2 bad3 t) := by
  rcases hx with ⟨rfl, o, hk, hi⟩ | ⟨rfl, rfl⟩
  · exact .inl ⟨.baseO, rfl, by decide, fun E Q h => (Or.inr (Or.inr (Or.inr (Or.inr (Or.inr (Or.inr (Or.inr (Or.inl ⟨rfl, _, _, _, _, rfl, .inl ⟨o, hk, hi, h⟩⟩))))))))⟩
  rcases h1 with ⟨rfl, hr1⟩ | ⟨rfl, a1, n1, rfl, ha1, hl1, hn1⟩
  · exact .inl ⟨.rowO, rfl, by decide, fun E Q h => (Or.inr (Or.inr (Or.inr (Or.inr (Or.inr (Or.inr (Or.inr (Or.inl ⟨rfl, _, _, _, _, rfl, .inr ⟨b, rfl, hb, .inl ⟨hr1, h⟩⟩⟩))))))))⟩
  rcases h2 with ⟨rfl, hr2⟩ | ⟨rfl, a2, n2, rfl, ha2, hl2, hn2⟩
  · exact .inl ⟨.rowO, rfl, by decide, fun E Q h => (Or.inr (Or.inr (Or.inr (Or.inr (Or.inr (Or.inr (Or.inr (Or.inl ⟨rfl, _, _, _, _, rfl, .inr ⟨b, rfl, hb, .inr ⟨a1, _, rfl, ha1, hl1, .inl ⟨hr2, h⟩⟩⟩⟩))))))))⟩
  rcases ht.f67 (by decide) with ⟨rfl, o, hk, hf⟩ | ⟨rfl, rfl⟩
  · exact .inl ⟨.countO, rfl, by decide, fun E Q h => (Or.inr (Or.inr (Or.inr (Or.inr (Or.inr (Or.inr (Or.inr (Or.inl ⟨rfl, _, _, _, _, rfl, .inr ⟨b, rfl, hb, .inr ⟨a1, _, rfl, ha1, hl1, .inr ⟨a2, _, rfl, ha2, hl2, .inl ⟨o, hk, hf, h⟩⟩⟩⟩⟩))))))))⟩
  exact .inr ⟨rfl, rfl, fun h => absurd h (by decide), fun h => absurd h (by decide), .ret, cannot_no (by decide) (by decide) (by decide), fun E Q h => (Or.inr (Or.inr (Or.inr (Or.inr (Or.inr (Or.inr (Or.inr (Or.inl ⟨rfl, _, _, _, _, rfl, .inr ⟨b, rfl, hb, .inr ⟨a1, _, rfl, ha1, hl1, .inr ⟨a2, _, rfl, ha2, hl2, .inr ⟨3, rfl, by decide, by decide, h⟩⟩⟩⟩⟩))))))))⟩
theorem law_oc8 (hb : 2 ≤ b ∧ b ≤ 1000000) (hx : BaseR H b good x) (h1 : RowG H b y1 bad1 (OneN b)) (h2 : RowG H b y2 bad2 (OtherN b)) (ht : ThirdR H 8 b bad3 t) : Due1 K H 8 x y1 y2 t (dueD 8 good bad1 bad2 bad3 t) ∨ Due2 K H b 8 x y1 y2 t bad1 bad3 (dueD 8 good bad1 bad2 bad3 t) := by
  rcases hx with ⟨rfl, o, hk, hi⟩ | ⟨rfl, rfl⟩
  · exact .inl ⟨.baseO, rfl, by decide, fun E Q h => (Or.inr (Or.inr (Or.inr (Or.inr (Or.inr (Or.inr (Or.inr (Or.inr (Or.inl ⟨rfl, _, _, _, rfl, .inl ⟨o, hk, hi, h⟩⟩)))))))))⟩
  rcases h1 with ⟨rfl, hr1⟩ | ⟨rfl, a1, n1, rfl, ha1, hl1, hn1⟩
  · exact .inl ⟨.rowO, rfl, by decide, fun E Q h => (Or.inr (Or.inr (Or.inr (Or.inr (Or.inr (Or.inr (Or.inr (Or.inr (Or.inl ⟨rfl, _, _, _, rfl, .inr ⟨b, rfl, hb, .inl ⟨hr1, h⟩⟩⟩)))))))))⟩
  rcases ht.f38 (by decide) with ⟨rfl, o, hk, hf⟩ | ⟨rfl, rfl | rfl⟩
  · exact .inl ⟨.figureO, rfl, by decide, fun E Q h => (Or.inr (Or.inr (Or.inr (Or.inr (Or.inr (Or.inr (Or.inr (Or.inr (Or.inl ⟨rfl, _, _, _, rfl, .inr ⟨b, rfl, hb, .inr ⟨a1, _, rfl, ha1, hl1, .inl ⟨o, hk, hf, h⟩⟩⟩⟩)))))))))⟩
  · exact .inr ⟨rfl, rfl, fun h => absurd h (by decide), fun h => absurd h (by decide), .byO, .inr (.inr (.inl ⟨rfl, 0, rfl, rfl⟩)), fun E Q h => (Or.inr (Or.inr (Or.inr (Or.inr (Or.inr (Or.inr (Or.inr (Or.inr (Or.inl ⟨rfl, _, _, _, rfl, .inr ⟨b, rfl, hb, .inr ⟨a1, _, rfl, ha1, hl1, .inr ⟨0, rfl, by omega, .inr ⟨rfl, h⟩⟩⟩⟩⟩)))))))))⟩
  · exact .inr ⟨rfl, rfl, fun h => absurd h (by decide), fun h => absurd h (by decide), .ret, .inr (.inr (.inl ⟨rfl, 1, rfl, rfl⟩)), fun E Q h => (Or.inr (Or.inr (Or.inr (Or.inr (Or.inr (Or.inr (Or.inr (Or.inr (Or.inl ⟨rfl, _, _, _, rfl, .inr ⟨b, rfl, hb, .inr ⟨a1, _, rfl, ha1, hl1, .inr ⟨1, rfl, by omega, .inl ⟨by decide, h⟩⟩⟩⟩⟩)))))))))⟩
theorem law_oc9 (hb : 2 ≤ b ∧ b ≤ 1000000) (hx : BaseR H b good x) (h1 : RowG H b y1 bad1 (OneN b)) (h2 : RowG H b y2 bad2 (OtherN b)) (ht : ThirdR H 9 b bad3 t) : Due1 K H 9 x y1 y2 t (dueD 9 good bad1 bad2 bad3 t) ∨ Due2 K H b 9 x y1 y2 t bad1 bad3 (dueD 9 good bad1 bad2 bad3 t) := by
  rcases hx with ⟨rfl, o, hk, hi⟩ | ⟨rfl, rfl⟩
  · exact .inl ⟨.baseO, rfl, by decide, fun E Q h => (Or.inr (Or.inr (Or.inr (Or.inr (Or.inr (Or.inr (Or.inr (Or.inr (Or.inr (Or.inl ⟨rfl, _, _, _, rfl, .inl ⟨o, hk, hi, h⟩⟩))))))))))⟩
  rcases h1 with ⟨rfl, hr1⟩ | ⟨rfl, a1, n1, rfl, ha1, hl1, hn1⟩
  · exact .inl ⟨.rowO, rfl, by decide, fun E Q h => (Or.inr (Or.inr (Or.inr (Or.inr (Or.inr (Or.inr (Or.inr (Or.inr (Or.inr (Or.inl ⟨rfl, _, _, _, rfl, .inr ⟨b, rfl, hb, .inl ⟨hr1, h⟩⟩⟩))))))))))⟩
  rcases h2 with ⟨rfl, hr2⟩ | ⟨rfl, a2, n2, rfl, ha2, hl2, hn2⟩
  · exact .inl ⟨.rowO, rfl, by decide, fun E Q h => (Or.inr (Or.inr (Or.inr (Or.inr (Or.inr (Or.inr (Or.inr (Or.inr (Or.inr (Or.inl ⟨rfl, _, _, _, rfl, .inr ⟨b, rfl, hb, .inr ⟨a1, _, rfl, ha1, hl1, .inl ⟨hr2, h⟩⟩⟩⟩))))))))))⟩
  rcases hn2 with ⟨rfl, e⟩ | ⟨rfl, e⟩ | ⟨hlt, e⟩
  · exact .inr ⟨rfl, rfl, fun h => absurd h (by decide), fun h => absurd h (by decide), .ret, .inr (.inl ⟨rfl, a2, _, rfl, ha2, by rw [e]; rfl⟩), fun E Q h => (Or.inr (Or.inr (Or.inr (Or.inr (Or.inr (Or.inr (Or.inr (Or.inr (Or.inr (Or.inl ⟨rfl, _, _, _, rfl, .inr ⟨b, rfl, hb, .inr ⟨a1, _, rfl, ha1, hl1, .inr ⟨a2, _, rfl, ha2, hl2, .inl ⟨by omega, h⟩⟩⟩⟩⟩))))))))))⟩
  · exact .inr ⟨rfl, rfl, fun h => absurd h (by decide), fun h => absurd h (by decide), .byO, .inr (.inl ⟨rfl, a2, _, rfl, ha2, by rw [e]; rfl⟩), fun E Q h => (Or.inr (Or.inr (Or.inr (Or.inr (Or.inr (Or.inr (Or.inr (Or.inr (Or.inr (Or.inl ⟨rfl, _, _, _, rfl, .inr ⟨b, rfl, hb, .inr ⟨a1, _, rfl, ha1, hl1, .inr ⟨a2, _, rfl, ha2, hl2, .inr ⟨rfl, h⟩⟩⟩⟩⟩))))))))))⟩
  · exact .inr ⟨rfl, rfl, fun h => absurd h (by decide), fun h => absurd h (by decide), .ret, .inr (.inl ⟨rfl, a2, _, rfl, ha2, by rw [e]; rfl⟩), fun E Q h => (Or.inr (Or.inr (Or.inr (Or.inr (Or.inr (Or.inr (Or.inr (Or.inr (Or.inr (Or.inl ⟨rfl, _, _, _, rfl, .inr ⟨b, rfl, hb, .inr ⟨a1, _, rfl, ha1, hl1, .inr ⟨a2, _, rfl, ha2, hl2, .inl ⟨by omega, h⟩⟩⟩⟩⟩))))))))))⟩
theorem law_oc10 (hb : 2 ≤ b ∧ b ≤ 1000000) (hx : BaseR H b good x) (h1 : RowG H b y1 bad1 (OneN b)) (h2 : RowG H b y2 bad2 (OtherN b)) (ht : ThirdR H 10 b bad3 t) : Due1 K H 10 x y1 y2 t (dueD 10 good bad1 bad2 bad3 t) ∨ Due2 K H b 10 x y1 y2 t bad1 bad3 (dueD 10 good bad1 bad2 bad3 t) := by
  rcases hx with ⟨rfl, o, hk, hi⟩ | ⟨rfl, rfl⟩
  · exact .inl ⟨.baseO, rfl, by decide, fun E Q h => (Or.inr (Or.inr (Or.inr (Or.inr (Or.inr (Or.inr (Or.inr (Or.inr (Or.inr (Or.inr (Or.inl ⟨rfl, _, _, _, rfl, .inl ⟨o, hk, hi, h⟩⟩)))))))))))⟩
  rcases h1 with ⟨rfl, hr1⟩ | ⟨rfl, a1, n1, rfl, ha1, hl1, hn1⟩
  · exact .inl ⟨.rowO, rfl, by decide, fun E Q h => (Or.inr (Or.inr (Or.inr (Or.inr (Or.inr (Or.inr (Or.inr (Or.inr (Or.inr (Or.inr (Or.inl ⟨rfl, _, _, _, rfl, .inr ⟨b, rfl, hb, .inl ⟨hr1, h⟩⟩⟩)))))))))))⟩
  rcases h2 with ⟨rfl, hr2⟩ | ⟨rfl, a2, n2, rfl, ha2, hl2, hn2⟩
  · exact .inl ⟨.rowO, rfl, by decide, fun E Q h => (Or.inr (Or.inr (Or.inr (Or.inr (Or.inr (Or.inr (Or.inr (Or.inr (Or.inr (Or.inr (Or.inl ⟨rfl, _, _, _, rfl, .inr ⟨b, rfl, hb, .inr ⟨a1, _, rfl, ha1, hl1, .inl ⟨hr2, h⟩⟩⟩⟩)))))))))))⟩
  exact .inr ⟨rfl, rfl, fun h => absurd h (by decide), fun h => absurd h (by decide), .ret, cannot_no (by decide) (by decide) (by decide), fun E Q h => (Or.inr (Or.inr (Or.inr (Or.inr (Or.inr (Or.inr (Or.inr (Or.inr (Or.inr (Or.inr (Or.inl ⟨rfl, _, _, _, rfl, .inr ⟨b, rfl, hb, .inr ⟨a1, _, rfl, ha1, hl1, .inr ⟨a2, _, rfl, ha2, hl2, h⟩⟩⟩⟩)))))))))))⟩
theorem law_oc11 (hb : 2 ≤ b ∧ b ≤ 1000000) (hx : BaseR H b good x) (h1 : RowG H b y1 bad1 (OneN b)) (h2 : RowG H b y2 bad2 (OtherN b)) (ht : ThirdR H 11 b bad3 t) : Due1 K H 11 x y1 y2 t (dueD 11 good bad1 bad2 bad3 t) ∨ Due2 K H b 11 x y1 y2 t bad1 bad3 (dueD 11 good bad1 bad2 bad3 t) := by
  rcases hx with ⟨rfl, o, hk, hi⟩ | ⟨rfl, rfl⟩
  · exact .inl ⟨.baseO, rfl, by decide, fun E Q h => (Or.inr (Or.inr (Or.inr (Or.inr (Or.inr (Or.inr (Or.inr (Or.inr (Or.inr (Or.inr (Or.inr (Or.inl ⟨rfl, _, _, _, rfl, .inl ⟨o, hk, hi, h⟩⟩))))))))))))⟩
  rcases h1 with ⟨rfl, hr1⟩ | ⟨rfl, a1, n1, rfl, ha1, hl1, hn1⟩
  · exact .inl ⟨.rowO, rfl, by decide, fun E Q h => (Or.inr (Or.inr (Or.inr (Or.inr (Or.inr (Or.inr (Or.inr (Or.inr (Or.inr (Or.inr (Or.inr (Or.inl ⟨rfl, _, _, _, rfl, .inr ⟨b, rfl, hb, .inl ⟨hr1, h⟩⟩⟩))))))))))))⟩
  rcases ht.f11 rfl with ⟨rfl, o, hk, hf⟩ | ⟨rfl, rfl⟩
  · exact .inl ⟨.baseO, rfl, by decide, fun E Q h => (Or.inr (Or.inr (Or.inr (Or.inr (Or.inr (Or.inr (Or.inr (Or.inr (Or.inr (Or.inr (Or.inr (Or.inl ⟨rfl, _, _, _, rfl, .inr ⟨b, rfl, hb, .inr ⟨a1, _, rfl, ha1, hl1, .inl ⟨o, hk, hf, h⟩⟩⟩⟩))))))))))))⟩
  exact .inr ⟨rfl, rfl, fun h => absurd h (by decide), fun h => absurd h (by decide), .ret, cannot_no (by decide) (by decide) (by decide), fun E Q h => (Or.inr (Or.inr (Or.inr (Or.inr (Or.inr (Or.inr (Or.inr (Or.inr (Or.inr (Or.inr (Or.inr (Or.inl ⟨rfl, _, _, _, rfl, .inr ⟨b, rfl, hb, .inr ⟨a1, _, rfl, ha1, hl1, .inr ⟨10, rfl, by decide, h⟩⟩⟩⟩))))))))))))⟩
theorem law_oc12 (hb : 2 ≤ b ∧ b ≤ 1000000) (hx : BaseR H b good x) (h1 : RowG H b y1 bad1 (OneN b)) (h2 : RowG H b y2 bad2 (OtherN b)) (ht : ThirdR H 12 b bad3 t) : Due1 K H 12 x y1 y2 t (dueD 12 good bad1 bad2 bad3 t) ∨ Due2 K H b 12 x y1 y2 t bad1 bad3 (dueD 12 good bad1 bad2 bad3 t) := by
  rcases hx with ⟨rfl, o, hk, hi⟩ | ⟨rfl, rfl⟩
  · exact .inl ⟨.baseO, rfl, by decide, fun E Q h => (Or.inr (Or.inr (Or.inr (Or.inr (Or.inr (Or.inr (Or.inr (Or.inr (Or.inr (Or.inr (Or.inr (Or.inr (Or.inl ⟨rfl, _, _, rfl, .inl ⟨o, hk, hi, h⟩⟩)))))))))))))⟩
  rcases h1 with ⟨rfl, hr1⟩ | ⟨rfl, a1, n1, rfl, ha1, hl1, hn1⟩
  · exact .inl ⟨.rowO, rfl, by decide, fun E Q h => (Or.inr (Or.inr (Or.inr (Or.inr (Or.inr (Or.inr (Or.inr (Or.inr (Or.inr (Or.inr (Or.inr (Or.inr (Or.inl ⟨rfl, _, _, rfl, .inr ⟨b, rfl, hb, .inl ⟨hr1, h⟩⟩⟩)))))))))))))⟩
  exact .inr ⟨rfl, rfl, fun h => absurd h (by decide), fun h => absurd h (by decide), .ret, cannot_no (by decide) (by decide) (by decide), fun E Q h => (Or.inr (Or.inr (Or.inr (Or.inr (Or.inr (Or.inr (Or.inr (Or.inr (Or.inr (Or.inr (Or.inr (Or.inr (Or.inl ⟨rfl, _, _, rfl, .inr ⟨b, rfl, hb, .inr ⟨a1, _, rfl, ha1, hl1, h⟩⟩⟩)))))))))))))⟩
theorem law_oc13 (hb : 2 ≤ b ∧ b ≤ 1000000) (hx : BaseR H b good x) (h1 : RowG H b y1 bad1 (OneN b)) (h2 : RowG H b y2 bad2 (OtherN b)) (ht : ThirdR H 13 b bad3 t) : Due1 K H 13 x y1 y2 t (dueD 13 good bad1 bad2 bad3 t) ∨ Due2 K H b 13 x y1 y2 t bad1 bad3 (dueD 13 good bad1 bad2 bad3 t) := by
  rcases hx with ⟨rfl, o, hk, hi⟩ | ⟨rfl, rfl⟩
  · exact .inl ⟨.baseO, rfl, by decide, fun E Q h => (Or.inr (Or.inr (Or.inr (Or.inr (Or.inr (Or.inr (Or.inr (Or.inr (Or.inr (Or.inr (Or.inr (Or.inr (Or.inr (Or.inl ⟨rfl, _, _, rfl, .inl ⟨o, hk, hi, h⟩⟩))))))))))))))⟩
  have hr : RowK H b y1 (!bad1) := by
    rcases h1 with ⟨rfl, hr1⟩ | ⟨rfl, a1, n1, rfl, ha1, hl1, hn1⟩
    · exact hr1
    · exact rowK_dig hb.1 ha1 (by omega)
  exact .inr ⟨rfl, rfl, fun _ => hr, fun h => absurd h (by decide), .ret, cannot_no (by decide) (by decide) (by decide), fun E Q h => (Or.inr (Or.inr (Or.inr (Or.inr (Or.inr (Or.inr (Or.inr (Or.inr (Or.inr (Or.inr (Or.inr (Or.inr (Or.inr (Or.inl ⟨rfl, _, _, rfl, .inr ⟨b, rfl, hb, ⟨_, hr, fun H' s => h _ H' s⟩⟩⟩))))))))))))))⟩
theorem law_oc14 (hb : 2 ≤ b ∧ b ≤ 1000000) (hx : BaseR H b good x) (h1 : RowG H b y1 bad1 (OneN b)) (h2 : RowG H b y2 bad2 (OtherN b)) (ht : ThirdR H 14 b bad3 t) : Due1 K H 14 x y1 y2 t (dueD 14 good bad1 bad2 bad3 t) ∨ Due2 K H b 14 x y1 y2 t bad1 bad3 (dueD 14 good bad1 bad2 bad3 t) := by
  rcases hx with ⟨rfl, o, hk, hi⟩ | ⟨rfl, rfl⟩
  · exact .inl ⟨.baseO, rfl, by decide, fun E Q h => (Or.inr (Or.inr (Or.inr (Or.inr (Or.inr (Or.inr (Or.inr (Or.inr (Or.inr (Or.inr (Or.inr (Or.inr (Or.inr (Or.inr (Or.inl ⟨rfl, _, _, rfl, .inl ⟨o, hk, hi, h⟩⟩)))))))))))))))⟩
  obtain ⟨o, hk, hf⟩ := ht.f14 rfl
  exact .inr ⟨rfl, rfl, fun h => absurd h (by decide), fun _ => ⟨o, hk, hf⟩, .ret, cannot_no (by decide) (by decide) (by decide), fun E Q h => (Or.inr (Or.inr (Or.inr (Or.inr (Or.inr (Or.inr (Or.inr (Or.inr (Or.inr (Or.inr (Or.inr (Or.inr (Or.inr (Or.inr (Or.inl ⟨rfl, _, _, rfl, .inr ⟨b, rfl, hb, ⟨o, hk, fun H' s => h _ H' s⟩⟩⟩)))))))))))))))⟩
theorem digits_len_small {b : Nat} (hb : 2 ≤ b) : (digits b 3).length ≤ 100 := digits_len_le hb (Nat.lt_of_lt_of_le (by decide : 3 < 2 ^ 100) (Nat.pow_le_pow_left hb 100))
theorem law_oc15 (hb : 2 ≤ b ∧ b ≤ 1000000) (hx : BaseR H b good x) (h1 : RowG H b y1 bad1 (OneN b)) (h2 : RowG H b y2 bad2 (OtherN b)) (ht : ThirdR H 15 b bad3 t) : Due1 K H 15 x y1 y2 t (dueD 15 good bad1 bad2 bad3 t) ∨ Due2 K H b 15 x y1 y2 t bad1 bad3 (dueD 15 good bad1 bad2 bad3 t) := by
  rcases hx with ⟨rfl, o, hk, hi⟩ | ⟨rfl, rfl⟩
  · exact .inl ⟨.baseO, rfl, by decide, fun E Q h => (Or.inr (Or.inr (Or.inr (Or.inr (Or.inr (Or.inr (Or.inr (Or.inr (Or.inr (Or.inr (Or.inr (Or.inr (Or.inr (Or.inr (Or.inr (Or.inl ⟨rfl, _, _, rfl, .inl ⟨o, hk, hi, h⟩⟩))))))))))))))))⟩
  rcases (ht.f15 rfl).2 with ⟨rfl, ⟨hk, hn⟩ | ⟨i, rfl, hi, hn⟩⟩ | ⟨rfl, rfl⟩
  · exact .inl ⟨.countO, due15.trans (if_neg (by rw [hn]; decide)), by decide, fun E Q h => (Or.inr (Or.inr (Or.inr (Or.inr (Or.inr (Or.inr (Or.inr (Or.inr (Or.inr (Or.inr (Or.inr (Or.inr (Or.inr (Or.inr (Or.inr (Or.inl ⟨rfl, _, _, rfl, .inr ⟨b, rfl, hb, .inl ⟨hk, h⟩⟩⟩))))))))))))))))⟩
  · exact .inl ⟨.belowO, due15.trans (if_pos hn), by decide, fun E Q h => (Or.inr (Or.inr (Or.inr (Or.inr (Or.inr (Or.inr (Or.inr (Or.inr (Or.inr (Or.inr (Or.inr (Or.inr (Or.inr (Or.inr (Or.inr (Or.inl ⟨rfl, _, _, rfl, .inr ⟨b, rfl, hb, .inr (.inl ⟨i, rfl, hi, h⟩)⟩⟩))))))))))))))))⟩
  exact .inr ⟨rfl, rfl, fun h => absurd h (by decide), fun h => absurd h (by decide), .ret, cannot_no (by decide) (by decide) (by decide), fun E Q h => (Or.inr (Or.inr (Or.inr (Or.inr (Or.inr (Or.inr (Or.inr (Or.inr (Or.inr (Or.inr (Or.inr (Or.inr (Or.inr (Or.inr (Or.inr (Or.inl ⟨rfl, _, _, rfl, .inr ⟨b, rfl, hb, .inr (.inr ⟨3, rfl, digits_len_small hb.1, h⟩)⟩⟩))))))))))))))))⟩
theorem law_oc16 (hb : 2 ≤ b ∧ b ≤ 1000000) (hx : BaseR H b good x) (h1 : RowG H b y1 bad1 (OneN b)) (h2 : RowG H b y2 bad2 (OtherN b)) (ht : ThirdR H 16 b bad3 t) : Due1 K H 16 x y1 y2 t (dueD 16 good bad1 bad2 bad3 t) ∨ Due2 K H b 16 x y1 y2 t bad1 bad3 (dueD 16 good bad1 bad2 bad3 t) := by
  rcases hx with ⟨rfl, o, hk, hi⟩ | ⟨rfl, rfl⟩
  · exact .inl ⟨.baseO, rfl, by decide, fun E Q h => (Or.inr (Or.inr (Or.inr (Or.inr (Or.inr (Or.inr (Or.inr (Or.inr (Or.inr (Or.inr (Or.inr (Or.inr (Or.inr (Or.inr (Or.inr (Or.inr ⟨rfl, _, _, rfl, .inl ⟨o, hk, hi, h⟩⟩))))))))))))))))⟩
  rcases ht.f16 rfl with ⟨rfl, hn | ⟨line, rfl, hl, hf⟩⟩ | ⟨rfl, line, rfl, hl, hf⟩
  · exact .inl ⟨.rowO, rfl, by decide, fun E Q h => (Or.inr (Or.inr (Or.inr (Or.inr (Or.inr (Or.inr (Or.inr (Or.inr (Or.inr (Or.inr (Or.inr (Or.inr (Or.inr (Or.inr (Or.inr (Or.inr ⟨rfl, _, _, rfl, .inr ⟨b, rfl, hb, .inl ⟨hn, h⟩⟩⟩))))))))))))))))⟩
  · exact .inl ⟨.rowO, rfl, by decide, fun E Q h => (Or.inr (Or.inr (Or.inr (Or.inr (Or.inr (Or.inr (Or.inr (Or.inr (Or.inr (Or.inr (Or.inr (Or.inr (Or.inr (Or.inr (Or.inr (Or.inr ⟨rfl, _, _, rfl, .inr ⟨b, rfl, hb, .inr ⟨line, rfl, hl, fun _ => h, fun z => absurd (hf.symm.trans z) Bool.false_ne_true⟩⟩⟩))))))))))))))))⟩
  exact .inr ⟨rfl, rfl, fun h => absurd h (by decide), fun h => absurd h (by decide), .ret, cannot_no (by decide) (by decide) (by decide), fun E Q h => (Or.inr (Or.inr (Or.inr (Or.inr (Or.inr (Or.inr (Or.inr (Or.inr (Or.inr (Or.inr (Or.inr (Or.inr (Or.inr (Or.inr (Or.inr (Or.inr ⟨rfl, _, _, rfl, .inr ⟨b, rfl, hb, .inr ⟨line, rfl, hl, fun z => absurd (z.symm.trans hf) Bool.false_ne_true, fun _ p H' _ s _ => h _ H' s⟩⟩⟩))))))))))))))))⟩
theorem law_oc (hw : 0 ≤ wh ∧ wh ≤ 16) (hb : 2 ≤ b ∧ b ≤ 1000000) (hx : BaseR H b good x) (h1 : RowG H b y1 bad1 (OneN b)) (h2 : RowG H b y2 bad2 (OtherN b)) (ht : ThirdR H wh b bad3 t) : Due1 K H wh x y1 y2 t (dueD wh good bad1 bad2 bad3 t) ∨ Due2 K H b wh x y1 y2 t bad1 bad3 (dueD wh good bad1 bad2 bad3 t) := by
  have h4 : wh = 0 ∨ wh = 1 ∨ wh = 2 ∨ wh = 3 ∨ wh = 4 ∨ wh = 5 ∨ wh = 6 ∨ wh = 7 ∨ wh = 8 ∨ wh = 9 ∨ wh = 10 ∨ wh = 11 ∨ wh = 12 ∨ wh = 13 ∨ wh = 14 ∨ wh = 15 ∨ wh = 16 := by omega
  rcases h4 with rfl | rfl | rfl | rfl | rfl | rfl | rfl | rfl | rfl | rfl | rfl | rfl | rfl | rfl | rfl | rfl | rfl
  · exact law_oc0 hb hx h1 h2 ht
  · exact law_oc1 hb hx h1 h2 ht
  · exact law_oc2 hb hx h1 h2 ht
  · exact law_oc3 hb hx h1 h2 ht
  · exact law_oc4 hb hx h1 h2 ht
  · exact law_oc5 hb hx h1 h2 ht
  · exact law_oc6 hb hx h1 h2 ht
  · exact law_oc7 hb hx h1 h2 ht
  · exact law_oc8 hb hx h1 h2 ht
  · exact law_oc9 hb hx h1 h2 ht
  · exact law_oc10 hb hx h1 h2 ht
  · exact law_oc11 hb hx h1 h2 ht
  · exact law_oc12 hb hx h1 h2 ht
  · exact law_oc13 hb hx h1 h2 ht
  · exact law_oc14 hb hx h1 h2 ht
  · exact law_oc15 hb hx h1 h2 ht
  · exact law_oc16 hb hx h1 h2 ht
end

/-! ### copies; what stays as the heap grows -/
def Eq0 (v : V) : Prop := flatB v = true ∨ ∃ a, v = .ref a
theorem Kd.eq0 {H : Hp} {v : V} {o : Option Int} (k : Kd H v o) : Eq0 v := by
  cases k with
  | int i => exact .inl rfl
  | bl b => exact .inl rfl
  | str x => exact .inl rfl
  | non => exact .inl rfl
  | lst e => exact .inr ⟨_, rfl⟩
  | tup e => exact .inr ⟨_, rfl⟩
  | dK e => exact .inr ⟨_, rfl⟩
theorem NoL.eq0 {H : Hp} {v : V} (k : NoL H v) : Eq0 v := by
  cases k with
  | int i => exact .inl rfl
  | bl b => exact .inl rfl
  | str x => exact .inl rfl
  | non => exact .inl rfl
  | tup e => exact .inr ⟨_, rfl⟩
  | dK e => exact .inr ⟨_, rfl⟩
def CpyR (H : Hp) (c y : V) : Prop := (∃ (p a : Addr) (xs : List V), c = .ref p ∧ y = .ref a ∧ H p = some (.lst xs) ∧ H a = some (.lst xs) ∧ ∀ v ∈ xs, Eq0 v) ∨ (c = y ∧ Eq0 y)
theorem CpyR.mono {H H' : Hp} {c y : V} (h : CpyR H c y) (s : Same H H') : CpyR H' c y := by
  rcases h with ⟨p, a, xs, e1, e2, h1, h2, h3⟩ | h
  · exact .inl ⟨p, a, xs, e1, e2, s _ _ h1, s _ _ h2, h3⟩
  · exact .inr h
theorem eq0_eqV {K : PySem.W.Frag} {H : Hp} {v : V} (n : Nat) (h : Eq0 v) : EqV K H (n + 1) v v := by
  rcases h with h | ⟨a, rfl⟩
  · exact .inl ⟨rfl, h⟩
  · exact .inr (.inl ⟨a, rfl, rfl⟩)
theorem eq0_all {K : PySem.W.Frag} {H : Hp} (n : Nat) : ∀ {xs : List V}, (∀ v ∈ xs, Eq0 v) → Paired (EqV K H (n + 1)) xs xs
  | [], _ => .nil
  | x :: xs, h => .cons (eq0_eqV n (h x List.mem_cons_self)) (eq0_all n fun v hv => h v (List.mem_cons_of_mem _ hv))
theorem CpyR.eqV {K : PySem.W.Frag} {H : Hp} {c y : V} (h : CpyR H c y) : EqV K H 2 c y := by
  rcases h with ⟨p, a, xs, rfl, rfl, h1, h2, h3⟩ | ⟨rfl, h⟩
  · exact .inr (.inr (.inl ⟨p, a, xs, xs, rfl, rfl, SqL.of h1, SqL.of h2, eq0_all 0 h3⟩))
  · exact eq0_eqV 1 h
theorem paired_eq0 {H : Hp} : ∀ {xs : List V} {ks : List (Option Int)}, Paired (Kd H) xs ks → ∀ v ∈ xs, Eq0 v
  | _, _, .nil, v, h => nomatch h
  | _, _, .cons r t, v, h => by
    rcases List.mem_cons.mp h with rfl | h
    · exact r.eq0
    · exact paired_eq0 t v h
theorem iv_eq0 (l : List Nat) : ∀ v ∈ iv l, Eq0 v := fun v h => by
  unfold iv at h
  obtain ⟨n, _, rfl⟩ := List.mem_map.mp h
  exact .inl rfl
theorem copy_ok {H0 H : Hp} {L : List (Addr × HO)} {b : Nat} {y : V} {bad : Bool} {C : Nat → Prop} {Q : VK} {E : XK} (T : Trk H0 H L) (h : RowG H b y bad C) (k : ∀ c H', Trk H0 H' [] → Same H H' → CpyR H' c y → Q c H') : spCopy [y] H Q E := by
  have main : ∀ (a : Addr) (xs : List V), y = .ref a → H a = some (.lst xs) → (∀ v ∈ xs, Eq0 v) → spCopy [y] H Q E := fun a xs e ha hx => by
    subst e
    refine ⟨_, rfl, .inl ⟨a, xs, rfl, ha, fun p H' hp s h => k _ H' ((T.call s).take 0) s (.inl ⟨p, a, xs, rfl, rfl, h, s _ _ ha, hx⟩)⟩⟩
  rcases h with ⟨_, ⟨a, xs, ks, rfl, ha, hp, _⟩ | ⟨hn, _⟩⟩ | ⟨_, a, n, rfl, ha, _, _⟩
  · exact main a xs rfl ha (paired_eq0 hp)
  · exact ⟨y, rfl, .inr ⟨hn, fun H' s => k _ H' ((T.call s).take 0) s (.inr ⟨rfl, hn.eq0⟩)⟩⟩
  · exact main a _ rfl ha (iv_eq0 _)
theorem CannotR.mono {H H' : Hp} {wh : Int} {y t : V} {r : Str} (h : CannotR H wh y t r) (s : Same H H') : CannotR H' wh y t r := by
  rcases h with ⟨e, a, l, e2, ha, er⟩ | ⟨e, a, l, e2, ha, er⟩ | h | h
  · exact .inl ⟨e, a, l, e2, s _ _ ha, er⟩
  · exact .inr (.inl ⟨e, a, l, e2, s _ _ ha, er⟩)
  · exact .inr (.inr (.inl h))
  · exact .inr (.inr (.inr h))
theorem CannotR.uniq {H : Hp} {wh : Int} {y t : V} {r r' : Str} (h : CannotR H wh y t r) (h' : CannotR H wh y t r') : r = r' := by
  rcases h with ⟨e, a, l, e2, ha, er⟩ | ⟨e, a, l, e2, ha, er⟩ | ⟨e, f, e2, er⟩ | ⟨n1, n2, n3, er⟩ <;> rcases h' with ⟨e', a', l', e2', ha', er'⟩ | ⟨e', a', l', e2', ha', er'⟩ | ⟨e', f', e2', er'⟩ | ⟨n1', n2', n3', er'⟩
  all_goals first
    | omega
    | (subst e2; cases e2'; rw [ha] at ha'; injection ha' with h3; injection h3 with h3; rw [er, er', iv_inj h3])
    | (subst e2; cases e2'; rw [er, er'])
    | rw [er, er']
theorem ThirdR.mono {H H' : Hp} {wh : Int} {b : Nat} {bad : Bool} {t : V} (h : ThirdR H wh b bad t) (s : Same H H') : ThirdR H' wh b bad t := by
  refine ⟨fun e => ?_, fun e => ?_, fun e => ?_, fun e => ?_, fun e => ?_, fun e => ?_, fun e => ⟨?_, ?_⟩⟩
  · exact (h.f38 e).imp_left fun ⟨h1, o, hk, h2⟩ => ⟨h1, o, hk.mono s, h2⟩
  · obtain ⟨o, hk, h2⟩ := h.f14 e
    exact ⟨o, hk.mono s, h2⟩
  · exact (h.f16 e).imp_left fun ⟨h1, h2⟩ => ⟨h1, h2.imp_left fun h3 => h3.mono s⟩
  · exact (h.f11 e).imp_left fun ⟨h1, o, hk, h2⟩ => ⟨h1, o, hk.mono s, h2⟩
  · exact (h.f4 e).imp_left fun ⟨h1, o, hk, h2⟩ => ⟨h1, o, hk.mono s, h2⟩
  · exact (h.f67 e).imp_left fun ⟨h1, o, hk, h2⟩ => ⟨h1, o, hk.mono s, h2⟩
  · exact (h.f15 e).1.imp_right fun ⟨a, xs, e1, ha⟩ => ⟨a, xs, e1, s _ _ ha⟩
  · exact (h.f15 e).2.imp_left fun ⟨h1, h2⟩ => ⟨h1, h2.imp_left fun ⟨hk, h3⟩ => ⟨hk.mono s, h3⟩⟩
theorem base_is {H : Hp} {b : Nat} {g : Bool} {x : V} (hb : 2 ≤ b ∧ b ≤ 1000000) (h : BaseR H b g x) : ∃ o, Kd H x o ∧ isB o = g := by
  rcases h with ⟨rfl, o, hk, hi⟩ | ⟨rfl, rfl⟩
  · exact ⟨o, hk, hi⟩
  · exact ⟨_, .int _, isB_nat hb⟩

local macro_rules | `(tactic| walk_at "d") => `(tactic| repeat (first | walk_at "l1" | refine x_I (by decide) ?_ | refine x_I ⟨by decide, by decide⟩ ?_))
local macro_rules | `(tactic| walk_at "de") => `(tactic| repeat (first | walk_at "l0" | refine x_I (by decide) ?_ | refine x_I ⟨by decide, by decide⟩ ?_))
theorem other_three {b : Nat} (hb : 2 ≤ b) : digits b (1 + (b + b * b)) = [1, 1, 1] := by
  have h : AllLt b [1, 1] := .cons (by omega) (.one (by omega))
  have e := digits_val_snoc hb h (by omega : 1 < b) (by decide)
  have e2 : val b ([1, 1] ++ [1]) = 1 + (b + b * b) := by
    show 1 + b * (1 + b * (1 + b * 0)) = _
    rw [Nat.mul_zero, Nat.add_zero, Nat.mul_add, Nat.mul_one]
  rw [e2] at e
  exact e
theorem other_two {b : Nat} (hb : 2 ≤ b) : digits b (1 + b) = [1, 1] := by
  have e := digits_val_snoc hb (.one (by omega : 1 < b)) (by omega : 1 < b) (by decide)
  have e2 : val b ([1] ++ [1]) = 1 + b := by
    show 1 + b * (1 + b * 0) = _
    rw [Nat.mul_zero, Nat.add_zero, Nat.mul_one]
  rw [e2] at e
  exact e
abbrev s_law : Stmt := topS 67
theorem sc_law : FnScope ["_law_script", "_law_which", "_law_cell", "_law_base", "_law_is_good", "_law_figures", "_law_one", "_law_other", "_law_takes_two", "_law_is_bad", "_law_is_bad_too", "_law_third_here", "_law_has_rows", "_law_is_other", "_law_due_here", "_law_told_here", "_law_kept", "_law_word"] ["_law_script"] (defScope s_law) := ⟨rfl, rfl, rfl, by decide +kernel, rfl, by decide +kernel, by decide +kernel⟩
set_option maxHeartbeats 4000000 in
theorem ok_law {P : Program} {w : World} {K : PySem.W.Frag} {mg : Str → Option Value} {base : Heap} {fa : Addr} {fd : FuncData} (F : FunD K "law" "law" (defArgs s_law) (defBody s_law) (defScope s_law) [] [] fa fd) (m_isinstance : mg "isinstance" = none) (m_bool : mg "bool" = none) (gc_LEAST_BASE : ∃ t, mg "LEAST_BASE" = some (.int 2 t)) (gc_MOST_BASE : ∃ t, mg "MOST_BASE" = some (.int 1000000 t)) (C__law_draw : Cal P w K mg base CX0 "_law_draw" 1 ["_law_script", "_law_k"] (spDraw K)) (C__law_bad_row : Cal P w K mg base CX0 "_law_bad_row" 1 (["_law_base", "_law_cell"]) spBadRow) (C__law_third : Cal P w K mg base CX0 "_law_third" 1 (["_law_which", "_law_base", "_law_cell"]) spThird) (C__law_due : Cal P w K mg base CX0 "_law_due" 1 (["_law_which", "_law_is_good", "_law_has_rows", "_law_third_here", "_law_is_other"]) spDue) (C__law_cannot : Cal P w K mg base CX0 "_law_cannot" 1 (["_law_which", "_law_other", "_law_third_here"]) spCannot) (C__law_answers : Cal P w K mg base CX0 "_law_answers" 6 (["_law_which", "_law_base", "_law_one", "_law_third_here", "_law_is_row_good", "_law_is_other"]) spAnswers) (C_is_base : Cal P w K mg base CX0 "is_base" 2 ["base"] spIsBase) (C__law_copy : Cal P w K mg base CX0 "_law_copy" 1 (["_law_row"]) spCopy) (C__law_told : Cal P w K mg base CX0 "_law_told" 16 (["_law_which", "_law_base", "_law_one", "_law_other", "_law_third_here"]) (spTold K)) : FnOk P w K mg base CX0 17 fa fd ["_law_script"] (spLaw K) := by
  refine fn0 F sc_law (fun vs H Q E h => ?_) (fun cdv A outer s H vs Q E hr h => ?_)
  · obtain ⟨a, ns, rfl, _⟩ := h
    rfl
  obtain ⟨a, ns, rfl, hS, q⟩ := h
  obtain ⟨tX_LEAST_BASE, gX_LEAST_BASE⟩ := gc_LEAST_BASE
  obtain ⟨tX_MOST_BASE, gX_MOST_BASE⟩ := gc_MOST_BASE
  refine ⟨_, (pss_cons (ps_par (i := 1) (j := 2) rfl sc_law.nd rfl rfl (by decide) rfl rfl (pa_cons (pe_op op_mod (pc C__law_draw hr (pa_cons (pv 0) (pa_cons pe_int pa_nil))) pe_int) (pa_cons (pc C__law_draw hr (pa_cons (pv 0) (pa_cons pe_int pa_nil))) pa_nil)) (by rfl))
      (pss_cons (ps_set (i := 3) sc_law.nd rfl (Or.inl rfl) (pe_op op_add pe_int (pe_op op_mod (pe_op op_fdiv (pv 2) pe_int) pe_int)))
      (pss_cons (ps_set (i := 4) sc_law.nd rfl (Or.inl rfl) (pe_cmpR op_ne (pe_op op_mod (pv 2) pe_int) pe_int (nomark _)))
      (pss_cons (ps_if (pt_not (pt_val (pv 4))) (pss_one (ps_set (i := 3) sc_law.nd rfl (Or.inl rfl) (pe_ix ix_list (pe_lst (pa_cons pe_int (pa_cons pe_int (pa_cons (pe_un un_neg pe_int) (pa_cons pe_int (pa_cons pe_bl (pa_cons pe_str (pa_cons pe_non (pa_cons (pe_lst (pa_cons pe_int pa_nil)) (pa_cons pe_int pa_nil)))))))))) (pe_op op_mod (pe_op op_fdiv (pv 2) pe_int) pe_int) (fun _ _ => rfl)))) pss_nil)
      (pss_cons (ps_set (i := 5) sc_law.nd rfl (Or.inl rfl) (pe_ifExp (pt_val (pv 4)) (pv 3) pe_int))
      (pss_cons (ps_par (i := 6) (j := 7) rfl sc_law.nd rfl rfl (by decide) rfl rfl (pa_cons (pe_lst (pa_cons pe_int (pa_cons pe_int pa_nil))) (pa_cons (pe_ix ix_list (pe_lst (pa_cons (pe_lst (pa_cons pe_int pa_nil)) (pa_cons (pe_lst pa_nil) (pa_cons (pe_lst (pa_cons pe_int (pa_cons pe_int (pa_cons pe_int pa_nil)))) pa_nil)))) (pe_op op_mod (pe_op op_fdiv (pc C__law_draw hr (pa_cons (pv 0) (pa_cons pe_int pa_nil))) pe_int) pe_int) (fun _ _ => rfl)) pa_nil)) (by rfl))
      (pss_cons (ps_set (i := 8) sc_law.nd rfl (Or.inl rfl) (pe_cmpR op_in_seq (pv 1) (pe_tup (pa_cons pe_int (pa_cons pe_int (pa_cons pe_int (pa_cons pe_int (pa_cons pe_int (pa_cons pe_int (pa_cons pe_int pa_nil)))))))) (by rfl)))
      (pss_cons (ps_par (i := 9) (j := 10) rfl sc_law.nd rfl rfl (by decide) rfl rfl (pa_cons (pe_cmpR op_eq (pe_op op_mod (pc C__law_draw hr (pa_cons (pv 0) (pa_cons pe_int pa_nil))) pe_int) pe_int (nomark _)) (pa_cons (pe_cmpR op_eq (pe_op op_mod (pc C__law_draw hr (pa_cons (pv 0) (pa_cons pe_int pa_nil))) pe_int) pe_int (nomark _)) pa_nil)) (by rfl))
      (pss_cons (ps_if (pt_val (pv 9)) (pss_one (ps_set (i := 6) sc_law.nd rfl (Or.inl rfl) (pc C__law_bad_row hr (pa_cons (pv 5) (pa_cons (pe_op op_fdiv (pc C__law_draw hr (pa_cons (pv 0) (pa_cons pe_int pa_nil))) pe_int) pa_nil))))) pss_nil)
      (pss_cons (ps_if (pt_val (pv 10)) (pss_one (ps_set (i := 7) sc_law.nd rfl (Or.inl rfl) (pc C__law_bad_row hr (pa_cons (pv 5) (pa_cons (pe_op op_fdiv (pc C__law_draw hr (pa_cons (pv 0) (pa_cons pe_int pa_nil))) pe_int) pa_nil))))) pss_nil)
      (pss_cons (ps_set (i := 11) sc_law.nd rfl (Or.inl rfl) (pc C__law_third hr (pa_cons (pv 1) (pa_cons (pv 5) (pa_cons (pc C__law_draw hr (pa_cons (pv 0) (pa_cons pe_int pa_nil))) pa_nil)))))
      (pss_cons (ps_set (i := 12) sc_law.nd rfl (Or.inl rfl) (pe_and (pe_not (pv 9)) (pe_one (pe_not (pe_and (pv 8) (pe_one (pv 10)))))))
      (pss_cons (ps_set (i := 13) sc_law.nd rfl (Or.inl rfl) (pe_cmpR op_eq (pe_op op_mod (pc C__law_draw hr (pa_cons (pv 0) (pa_cons pe_int pa_nil))) pe_int) pe_int (nomark _)))
      (pss_cons (ps_set (i := 14) sc_law.nd rfl (Or.inl rfl) (pc C__law_due hr (pa_cons (pv 1) (pa_cons (pv 4) (pa_cons (pv 12) (pa_cons (pv 11) (pa_cons (pv 13) pa_nil)))))))
      (pss_cons (ps_if (pt_cmpR op_eq (pv 14) pe_str (nomark _)) (pss_one (ps_set (i := 14) sc_law.nd rfl (Or.inl rfl) (pc C__law_cannot hr (pa_cons (pv 1) (pa_cons (pv 7) (pa_cons (pv 11) pa_nil)))))) pss_nil)
      (pss_cons (ps_if (PW.pt (pw_and (pt_cmpR op_eq (pv 14) pe_str (nomark _)) (pw_and1 (pt_not (pt_val (pc C__law_answers hr (pa_cons (pv 1) (pa_cons (pv 3) (pa_cons (pv 6) (pa_cons (pv 11) (pa_cons (pe_not (pv 9)) (pa_cons (pv 13) pa_nil)))))))))))) (pss_one (ps_ret pe_bl)) pss_nil)
      (pss_cons (ps_set (i := 15) sc_law.nd rfl (Or.inl rfl) (pc C_is_base hr (pa_cons (pv 3) pa_nil)))
      (pss_cons (ps_if (PW.pt (pw_or (pt_cmpR op_ne (pe_glob (v := .int 2) (by rfl) gX_LEAST_BASE ⟨_, rfl⟩) pe_int (nomark _)) (pw_or (pt_cmpR op_ne (pe_glob (v := .int 1000000) (by rfl) gX_MOST_BASE ⟨_, rfl⟩) pe_int (nomark _)) (pw_or (pt_not (pt_val (pe_callB call_isi (by rfl) m_isinstance (by decide +kernel) (pa_cons (pv 15) (pa_cons (pe_bltn (v := .ty "bool") (by rfl) m_bool (by decide +kernel) rfl) pa_nil))))) (pw_or1 (pt_cmpR op_ne (pv 15) (pv 4) (nomark _))))))) (pss_one (ps_ret pe_bl)) pss_nil)
      (pss_cons (ps_set (i := 16) sc_law.nd rfl (Or.inl rfl) (pe_lst (pa_cons (pc C__law_copy hr (pa_cons (pv 6) pa_nil)) (pa_cons (pc C__law_copy hr (pa_cons (pv 7) pa_nil)) pa_nil))))
      (pss_cons (ps_set (i := 17) sc_law.nd rfl (Or.inl rfl) (pc C__law_told hr (pa_cons (pv 1) (pa_cons (pv 3) (pa_cons (pv 6) (pa_cons (pv 7) (pa_cons (pv 11) pa_nil)))))))
      (pss_one (ps_ret (pe_and (pe_cmpR op_eq (pv 17) (pv 14) (nomark _)) (pe_one (pe_cmpR (op_eqV hr.units) (pv 16) (pe_lst (pa_cons (pv 6) (pa_cons (pv 7) pa_nil))) (nomark _)))))))))))))))))))))))))), ?_⟩
  show tSeq _ _ _ [some (.ref a), none, none, none, none, none, none, none, none, none, none, none, none, none, none, none, none, none] H
  have T := Trk.nil H
  walk_at "de"
  with_reducible refine x_seq ?_
  walk_at "de"
  with_reducible refine x_seq ?_
  walk_at "de"
  with_reducible refine x_seq ?_
  walk_at "de"
  with_reducible refine x_seq ?_
  generalize drw ns 0 = z0
  generalize drw ns 1 = z1
  rename_i H1 T
  have hS1 := T.sq hS
  obtain ⟨wh, hwh⟩ : ∃ wh, wh = z0 % 17 := ⟨_, rfl⟩
  have hw : 0 ≤ wh ∧ wh ≤ 16 := by omega
  obtain ⟨g, hg⟩ : ∃ g, g = !decide (z1 % 10 = 3) := ⟨_, rfl⟩
  obtain ⟨b0, hb0, hb1, hb2⟩ : ∃ b0 : Nat, 2 + z1 / 10 % 999999 = (b0 : Int) ∧ 2 ≤ b0 ∧ b0 ≤ 1000000 := ⟨(2 + z1 / 10 % 999999).toNat, by omega, by omega, by omega⟩
  rw [← hwh, ← hg, hb0]
  clear hwh hg hb0 T hS
  -- the base
  refine x_mid (fun σ' H' => ∃ (x : V) (b : Nat), σ' = [some (.ref a), some (.int wh), some (.int z1), some x, some (.bl g), none, none, none, none, none, none, none, none, none, none, none, none, none] ∧ SqL K H' a (ns.map V.int) ∧ (2 ≤ b ∧ b ≤ 1000000) ∧ BaseR H' b g x ∧ (g = false → b = 10)) ?_ ?_
  · intro R hk
    have T := Trk.nil H1
    walk_at "s"
    cases g with
    | true =>
      walk_at "s"
      exact hk _ _ ⟨_, b0, rfl, hS1, ⟨hb1, hb2⟩, .inr ⟨rfl, rfl⟩, fun h => nomatch h⟩
    | false =>
      walk_at "d"
      rename_i p1 _ p2 T
      have fin : ∀ {x : V} {o : Option Int}, Kd _ x o → isB o = false → R [some (.ref a), some (.int wh), some (.int z1), some x, some (.bl false), none, none, none, none, none, none, none, none, none, none, none, none, none] _ := fun {x o} h1 h2 => hk _ _ ⟨x, 10, rfl, T.sq hS1, by decide, .inl ⟨rfl, o, h1, h2⟩, fun _ => rfl⟩
      have hp1 := T.get (i := 1) rfl
      have h3 : 0 ≤ z1 / 10 % 9 ∧ z1 / 10 % 9 < 9 := by omega
      generalize z1 / 10 % 9 = k at *
      have h4 : k = 0 ∨ k = 1 ∨ k = 2 ∨ k = 3 ∨ k = 4 ∨ k = 5 ∨ k = 6 ∨ k = 7 ∨ k = 8 := by omega
      rcases h4 with rfl | rfl | rfl | rfl | rfl | rfl | rfl | rfl | rfl
      · exact x_ix (T.get (i := 0) rfl) (atI_nat (j := 0) rfl) (fin (.int _) rfl)
      · exact x_ix (T.get (i := 0) rfl) (atI_nat (j := 1) rfl) (fin (.int _) rfl)
      · exact x_ix (T.get (i := 0) rfl) (atI_nat (j := 2) rfl) (fin (.int _) rfl)
      · exact x_ix (T.get (i := 0) rfl) (atI_nat (j := 3) rfl) (fin (.int _) rfl)
      · exact x_ix (T.get (i := 0) rfl) (atI_nat (j := 4) rfl) (fin (.bl _) rfl)
      · exact x_ix (T.get (i := 0) rfl) (atI_nat (j := 5) rfl) (fin (.str _) rfl)
      · exact x_ix (T.get (i := 0) rfl) (atI_nat (j := 6) rfl) (fin .non rfl)
      · exact x_ix (T.get (i := 0) rfl) (atI_nat (j := 7) rfl) (fin (.lst hp1) rfl)
      · exact x_ix (T.get (i := 0) rfl) (atI_nat (j := 8) rfl) (fin (.int _) rfl)
  clear hS1 hb1 hb2
  rintro σ' H2 ⟨x, b, rfl, hS2, hb, hx, hg⟩
  clear H1
  -- its figures
  with_reducible refine x_seq ?_
  refine x_mid (fun σ' H' => σ' = [some (.ref a), some (.int wh), some (.int z1), some x, some (.bl g), some (.int (b : Int)), none, none, none, none, none, none, none, none, none, none, none, none] ∧ H' = H2) ?_ ?_
  · intro R hk
    walk_at "de"
    cases g with
    | true =>
      obtain ⟨h, _⟩ | ⟨_, rfl⟩ := hx
      · cases h
      walk_at "de"
      exact hk _ _ ⟨rfl, rfl⟩
    | false =>
      cases hg rfl
      walk_at "de"
      exact hk _ _ ⟨rfl, rfl⟩
  rintro σ' H' ⟨rfl, rfl⟩
  clear hg
  -- the rows, good ones
  with_reducible refine x_seq ?_
  refine x_mid (fun σ' H' => ∃ (y1 y2 : V), σ' = [some (.ref a), some (.int wh), some (.int z1), some x, some (.bl g), some (.int (b : Int)), some y1, some y2, none, none, none, none, none, none, none, none, none, none] ∧ SqL K H' a (ns.map V.int) ∧ BaseR H' b g x ∧ RowG H' b y1 false (OneN b) ∧ RowG H' b y2 false (OtherN b)) ?_ ?_
  · intro R hk
    have T := Trk.nil H'
    walk_at "de"
    rename_i T
    have h3 : 0 ≤ drw ns 3 / 4 % 3 ∧ drw ns 3 / 4 % 3 < 3 := by omega
    generalize drw ns 3 / 4 % 3 = k at *
    have h4 : k = 0 ∨ k = 1 ∨ k = 2 := by omega
    have e1 : dig b 1 = [V.int 1] := by unfold dig; rw [digits_one hb.1]; rfl
    have e0 : dig b 0 = [] := by unfold dig; rw [digits_zero]; rfl
    have e2 : dig b (1 + b) = [V.int 1, .int 1] := by unfold dig; rw [other_two hb.1]; rfl
    have e3 : dig b (1 + (b + b * b)) = [V.int 1, .int 1, .int 1] := by unfold dig; rw [other_three hb.1]; rfl
    have l2 : (digits b (1 + b)).length ≤ 100 := by rw [other_two hb.1]; decide
    rcases h4 with rfl | rfl | rfl
    · refine x_ix (T.get (i := 0) rfl) (atI_nat (j := 0) rfl) ?_
      walk_at "de"
      refine hk _ _ ⟨_, _, rfl, T.sq hS2, hx.mono T.same, .inr ⟨rfl, _, 1 + b, rfl, by rw [e2]; exact T.get (i := 4) rfl, l2, rfl⟩, .inr ⟨rfl, _, 1, rfl, by rw [e1]; exact T.get (i := 3) rfl, by rw [digits_one hb.1]; decide, .inl ⟨rfl, digits_one hb.1⟩⟩⟩
    · refine x_ix (T.get (i := 0) rfl) (atI_nat (j := 1) rfl) ?_
      walk_at "de"
      refine hk _ _ ⟨_, _, rfl, T.sq hS2, hx.mono T.same, .inr ⟨rfl, _, 1 + b, rfl, by rw [e2]; exact T.get (i := 4) rfl, l2, rfl⟩, .inr ⟨rfl, _, 0, rfl, by rw [e0]; exact T.get (i := 2) rfl, by rw [digits_zero]; decide, .inr (.inl ⟨rfl, digits_zero _⟩)⟩⟩
    · refine x_ix (T.get (i := 0) rfl) (atI_nat (j := 2) rfl) ?_
      walk_at "de"
      refine hk _ _ ⟨_, _, rfl, T.sq hS2, hx.mono T.same, .inr ⟨rfl, _, 1 + b, rfl, by rw [e2]; exact T.get (i := 4) rfl, l2, rfl⟩, .inr ⟨rfl, _, 1 + (b + b * b), rfl, by rw [e3]; exact T.get (i := 1) rfl, by rw [other_three hb.1]; decide, .inr (.inr ⟨?_, other_three hb.1⟩)⟩⟩
      have : 1 ≤ b * b := Nat.mul_pos (by omega) (by omega)
      omega
  clear hS2 hx
  rintro σ' H3 ⟨y1, y2, rfl, hS3, hx, h1, h2⟩
  clear H'
  -- takes two; bad
  have T := Trk.nil H3
  with_reducible refine x_seq ?_
  walk_at "de"
  refine x_inI [1, 2, 5, 6, 7, 9, 10] (by walk_at "fact") ?_
  walk_at "de"
  with_reducible refine x_seq ?_
  walk_at "de"
  rename_i H4 T
  have T := T.take 0
  have hS4 := T.sq hS3
  replace hx := hx.mono T.same
  replace h1 := h1.mono T.same
  replace h2 := h2.mono T.same
  clear T hS3
  have hf1 : ∃ b1, b1 = decide (drw ns 2 % 4 = 1) := ⟨_, rfl⟩
  have hf2 : ∃ b1, b1 = decide (drw ns 3 % 4 = 1) := ⟨_, rfl⟩
  obtain ⟨bad1, hf1⟩ := hf1
  obtain ⟨bad2, hf2⟩ := hf2
  rw [← hf1, ← hf2]
  clear hf1 hf2
  -- the rows, bad ones
  with_reducible refine x_seq ?_
  refine x_mid (fun σ' H' => ∃ (y1 : V), σ' = [some (.ref a), some (.int wh), some (.int z1), some x, some (.bl g), some (.int (b : Int)), some y1, some y2, some (.bl (twoB wh)), some (.bl bad1), some (.bl bad2), none, none, none, none, none, none, none] ∧ SqL K H' a (ns.map V.int) ∧ BaseR H' b g x ∧ RowG H' b y1 bad1 (OneN b) ∧ RowG H' b y2 false (OtherN b)) ?_ ?_
  · intro R hk
    have T := Trk.nil H4
    walk_at "s"
    cases bad1 with
    | false =>
      walk_at "s"
      exact hk _ _ ⟨y1, rfl, hS4, hx, h1, h2⟩
    | true =>
      walk_at "d"
      rename_i T
      refine ⟨b, _, rfl, hb, fun y H' s hr => ?_⟩
      walk_at "d"
      exact hk _ _ ⟨y, rfl, (T.call s).sq hS4, hx.mono (T.call s).same, .inl ⟨rfl, hr⟩, h2.mono (T.call s).same⟩
  clear hS4 hx h1 h2
  rintro σ' H5 ⟨y1, rfl, hS5, hx, h1, h2⟩
  with_reducible refine x_seq ?_
  refine x_mid (fun σ' H' => ∃ (y2 : V), σ' = [some (.ref a), some (.int wh), some (.int z1), some x, some (.bl g), some (.int (b : Int)), some y1, some y2, some (.bl (twoB wh)), some (.bl bad1), some (.bl bad2), none, none, none, none, none, none, none] ∧ SqL K H' a (ns.map V.int) ∧ BaseR H' b g x ∧ RowG H' b y1 bad1 (OneN b) ∧ RowG H' b y2 bad2 (OtherN b)) ?_ ?_
  · intro R hk
    have T := Trk.nil H5
    walk_at "s"
    cases bad2 with
    | false =>
      walk_at "s"
      exact hk _ _ ⟨y2, rfl, hS5, hx, h1, h2⟩
    | true =>
      walk_at "d"
      rename_i T
      refine ⟨b, _, rfl, hb, fun y H' s hr => ?_⟩
      walk_at "d"
      exact hk _ _ ⟨y, rfl, (T.call s).sq hS5, hx.mono (T.call s).same, h1.mono (T.call s).same, .inl ⟨rfl, hr⟩⟩
  clear hS5 hx h1 h2
  rintro σ' H6 ⟨y2, rfl, hS6, hx, h1, h2⟩
  -- the third
  have T := Trk.nil H6
  with_reducible refine x_seq ?_
  walk_at "de"
  rename_i T
  refine ⟨wh, b, _, rfl, hw, hb, fun t H7 s ht => ?_⟩
  have T := T.call s
  have hS7 := T.sq hS6
  replace hx := hx.mono T.same
  replace h1 := h1.mono T.same
  replace h2 := h2.mono T.same
  clear hS6 T s
  have T := Trk.nil H7
  walk_at "de"
  with_reducible refine x_seq ?_
  refine x_mid (fun σ' H' => H' = H7 ∧ σ' = [some (.ref a), some (.int wh), some (.int z1), some x, some (.bl g), some (.int (b : Int)), some y1, some y2, some (.bl (twoB wh)), some (.bl bad1), some (.bl bad2), some t, some (.bl (!bad1 && !(twoB wh && bad2))), none, none, none, none, none]) ?_ ?_
  · intro R hk
    generalize twoB wh = tw at hk ⊢
    walk_at "de"
    cases bad1 with
    | true =>
      walk_at "de"
      exact hk _ _ ⟨rfl, rfl⟩
    | false =>
      walk_at "de"
      cases tw with
      | false =>
        walk_at "de"
        exact hk _ _ ⟨rfl, rfl⟩
      | true =>
        walk_at "de"
        cases bad2 with
        | false =>
          walk_at "de"
          exact hk _ _ ⟨rfl, rfl⟩
        | true =>
          walk_at "de"
          exact hk _ _ ⟨rfl, rfl⟩
  rintro σ' H' ⟨rfl, rfl⟩
  with_reducible refine x_seq ?_
  walk_at "de"
  with_reducible refine x_seq ?_
  obtain ⟨bad3, hf3⟩ : ∃ b3, b3 = decide (drw ns 4 % 2 = 1) := ⟨_, rfl⟩
  rw [← hf3] at ht ⊢
  clear hf3
  rename_i H8 T
  replace ht := ht.mono T.same
  replace hx := hx.mono T.same
  replace h1 := h1.mono T.same
  replace h2 := h2.mono T.same
  clear hS7 T
  have T := Trk.nil H8
  walk_at "de"
  refine ⟨wh, g, _, bad3, t, rfl, fun e => (ht.f15 e).1, t_retV T fun _ _ => ?_⟩
  rw [show dueW wh g (!bad1 && !(twoB wh && bad2)) t bad3 = dueD wh g bad1 bad2 bad3 t from rfl]
  have hD := fun {H : Hp} (s : Same H8 H) => law_oc (K := K) hw hb (hx.mono s) (h1.mono s) (h2.mono s) (ht.mono s)
  generalize dueD wh g bad1 bad2 bad3 t = d at *
  walk_at "de"
  rename_i H9 T
  -- what is due
  with_reducible refine x_seq ?_
  refine x_mid (fun σ' H' => ∃ r : Str, σ' = [some (.ref a), some (.int wh), some (.int z1), some x, some (.bl g), some (.int (b : Int)), some y1, some y2, some (.bl (twoB wh)), some (.bl bad1), some (.bl bad2), some t, some (.bl (!bad1 && !(twoB wh && bad2))), some (.bl bad3), some (.str r), none, none, none] ∧ Same H8 H' ∧ (d ≠ "" ∧ r = d ∨ d = "" ∧ CannotR H' wh y2 t r)) ?_ ?_
  · intro R hk
    walk_at "de"
    by_cases hd : d = ""
    · refine ifT (decide_eq_true hd) ?_
      walk_at "de"
      rcases hD T.same with ⟨oc, e, ne, _⟩ | ⟨_, _, _, _, oc, hc, _⟩
      · exact absurd (e.symm.trans hd) ne
      refine ⟨wh, y2, t, ocW oc, rfl, hc, fun H' s => ?_⟩
      walk_at "de"
      exact hk _ _ ⟨ocW oc, rfl, T.same.trans s, .inr ⟨hd, hc.mono s⟩⟩
    · refine ifF (decide_eq_false hd) ?_
      walk_at "de"
      exact hk _ _ ⟨d, rfl, T.same, .inl ⟨hd, rfl⟩⟩
  clear T
  rintro σ' H' ⟨r, rfl, s, hr⟩
  with_reducible refine x_seq ?_
  refine x_mid (fun σ' H' => σ' = [some (.ref a), some (.int wh), some (.int z1), some x, some (.bl g), some (.int (b : Int)), some y1, some y2, some (.bl (twoB wh)), some (.bl bad1), some (.bl bad2), some t, some (.bl (!bad1 && !(twoB wh && bad2))), some (.bl bad3), some (.str r), none, none, none] ∧ Same H8 H' ∧ (d ≠ "" ∧ r = d ∨ d = "" ∧ CannotR H' wh y2 t r)) ?_ ?_
  · intro R hk
    have T := Trk.nil H'
    walk_at "d"
    by_cases hr0 : r = ""
    · refine ifT (decide_eq_true hr0) ?_
      walk_at "d"
      have hd : d = "" := by
        rcases hr with ⟨n, e⟩ | ⟨e, _⟩
        · exact absurd (e.symm.trans hr0) n
        · exact e
      rcases hD s with ⟨oc, e, ne, _⟩ | ⟨_, hxb, h13, h14, _⟩
      · exact absurd (e.symm.trans hd) ne
      refine ⟨wh, x, y1, t, _, bad3, rfl, fun e => ⟨b, hxb, hb, h13 e⟩, fun e => ?_, fun H'' s' => ?_⟩
      · obtain ⟨o, ho, hf⟩ := h14 e
        exact ⟨b, o, hxb, hb, ho, hf⟩
      walk_at "d"
      exact hk _ _ ⟨rfl, s.trans s', hr.imp_right fun h => ⟨h.1, h.2.mono s'⟩⟩
    · refine ifF (decide_eq_false hr0) ?_
      walk_at "d"
      exact hk _ _ ⟨rfl, s, hr⟩
  clear hr s
  rintro σ' H10 ⟨rfl, s, hr⟩
  -- is_base
  with_reducible refine x_seq ?_
  have T := Trk.nil H10
  obtain ⟨o, hko, hio⟩ := base_is hb (hx.mono s)
  walk_at "de"
  refine ⟨x, o, rfl, hko, t_retV T fun _ T => ?_⟩
  rw [hio]
  walk_at "d"
  refine ifF rfl ?_
  walk_at "d"
  refine ifF rfl ?_
  walk_at "d"
  refine x_isi (b := true) (.base (.bl g)) (by decide +kernel) ?_
  walk_at "d"
  refine ⟨rfl, ?_⟩
  rw [decide_eq_true rfl]
  walk_at "d"
  refine copy_ok T ((h1.mono s).mono T.same) fun c1 H11 T s1 hc1 => ?_
  walk_at "d"
  refine copy_ok T ((h2.mono s).mono T.same) fun c2 H12 T s2 hc2 => ?_
  replace hc1 := hc1.mono s2
  replace s := s.trans T.same
  replace hr := hr.imp_right fun h => And.intro h.1 (h.2.mono T.same)
  clear T
  have T := Trk.nil H12
  walk_at "d"
  rename_i kp T
  replace s := s.trans T.same
  replace hr := hr.imp_right fun h => And.intro h.1 (h.2.mono T.same)
  obtain ⟨oc, e, hc⟩ : ∃ oc, ocW oc = r ∧ ∀ E Q, OutP K _ E Q oc → CallG K _ wh x y1 y2 t E Q := by
    rcases hD s with ⟨oc, e, ne, hc⟩ | ⟨e, _, _, _, oc, hcn, hc⟩
    · refine ⟨oc, ?_, hc⟩
      rcases hr with ⟨_, h⟩ | ⟨h, _⟩
      · exact (h.trans e).symm
      · exact absurd (e.symm.trans h) ne
    · refine ⟨oc, ?_, hc⟩
      rcases hr with ⟨h, _⟩ | ⟨_, h⟩
      · exact absurd e h
      · exact hcn.uniq h
  refine ⟨wh, x, y1, y2, t, oc, rfl, hc, t_retV T fun H14 T => ?_⟩
  walk_at "d"
  refine ifT (decide_eq_true e) ?_
  walk_at "d"
  rename_i k2 T
  refine ⟨2, by decide, .inl ⟨kp, k2, _, _, rfl, rfl, SqL.of (T.get (i := 1) rfl), SqL.of (T.get (i := 0) rfl), .cons (hc1.mono T.same).eqV (.cons (hc2.mono T.same).eqV .nil)⟩, ?_⟩
  exact q _
def d_is_whole : He.DefD := ⟨("is_whole", none), "is_whole", "is_whole", defArgs s_is_whole, defBody s_is_whole, defScope s_is_whole, [], []⟩
def d_is_base : He.DefD := ⟨("is_base", none), "is_base", "is_base", defArgs s_is_base, defBody s_is_base, defScope s_is_base, [], []⟩
def d_need_base : He.DefD := ⟨("need_base", none), "need_base", "need_base", defArgs s_need_base, defBody s_need_base, defScope s_need_base, [], []⟩
def d_is_figure : He.DefD := ⟨("is_figure", none), "is_figure", "is_figure", defArgs s_is_figure, defBody s_is_figure, defScope s_is_figure, [], []⟩
def d_is_row : He.DefD := ⟨("is_row", none), "is_row", "is_row", defArgs s_is_row, defBody s_is_row, defScope s_is_row, [], []⟩
def d_need_row : He.DefD := ⟨("need_row", none), "need_row", "need_row", defArgs s_need_row, defBody s_need_row, defScope s_need_row, [], []⟩
def d_need_figure : He.DefD := ⟨("need_figure", none), "need_figure", "need_figure", defArgs s_need_figure, defBody s_need_figure, defScope s_need_figure, [], []⟩
def d_need_count : He.DefD := ⟨("need_count", none), "need_count", "need_count", defArgs s_need_count, defBody s_need_count, defScope s_need_count, [], []⟩
def d_trimmed : He.DefD := ⟨("trimmed", none), "trimmed", "trimmed", defArgs s_trimmed, defBody s_trimmed, defScope s_trimmed, [], []⟩
def d_row_of : He.DefD := ⟨("row_of", none), "row_of", "row_of", defArgs s_row_of, defBody s_row_of, defScope s_row_of, [], []⟩
def d_number_of : He.DefD := ⟨("number_of", none), "number_of", "number_of", defArgs s_number_of, defBody s_number_of, defScope s_number_of, [], []⟩
def d_order : He.DefD := ⟨("order", none), "order", "order", defArgs s_order, defBody s_order, defScope s_order, [], []⟩
def d_figure_at : He.DefD := ⟨("figure_at", none), "figure_at", "figure_at", defArgs s_figure_at, defBody s_figure_at, defScope s_figure_at, [], []⟩
def d_summed : He.DefD := ⟨("summed", none), "summed", "summed", defArgs s_summed, defBody s_summed, defScope s_summed, [], []⟩
def d_added : He.DefD := ⟨("added", none), "added", "added", defArgs s_added, defBody s_added, defScope s_added, [], []⟩
def d_less_by : He.DefD := ⟨("less_by", none), "less_by", "less_by", defArgs s_less_by, defBody s_less_by, defScope s_less_by, [], []⟩
def d_taken : He.DefD := ⟨("taken", none), "taken", "taken", defArgs s_taken, defBody s_taken, defScope s_taken, [], []⟩
def d_times : He.DefD := ⟨("times", none), "times", "times", defArgs s_times, defBody s_times, defScope s_times, [], []⟩
def d_scaled : He.DefD := ⟨("scaled", none), "scaled", "scaled", defArgs s_scaled, defBody s_scaled, defScope s_scaled, [], []⟩
def d_moved_up : He.DefD := ⟨("moved_up", none), "moved_up", "moved_up", defArgs s_moved_up, defBody s_moved_up, defScope s_moved_up, [], []⟩
def d_shifted : He.DefD := ⟨("shifted", none), "shifted", "shifted", defArgs s_shifted, defBody s_shifted, defScope s_shifted, [], []⟩
def d_parts_of : He.DefD := ⟨("parts_of", none), "parts_of", "parts_of", defArgs s_parts_of, defBody s_parts_of, defScope s_parts_of, [], []⟩
def d_parted : He.DefD := ⟨("parted", none), "parted", "parted", defArgs s_parted, defBody s_parted, defScope s_parted, [], []⟩
def d_top_of : He.DefD := ⟨("top_of", none), "top_of", "top_of", defArgs s_top_of, defBody s_top_of, defScope s_top_of, [], []⟩
def d_often : He.DefD := ⟨("often", none), "often", "often", defArgs s_often, defBody s_often, defScope s_often, [], []⟩
def d_shares : He.DefD := ⟨("shares", none), "shares", "shares", defArgs s_shares, defBody s_shares, defScope s_shares, [], []⟩
def d_divided : He.DefD := ⟨("divided", none), "divided", "divided", defArgs s_divided, defBody s_divided, defScope s_divided, [], []⟩
def d_ladder : He.DefD := ⟨("ladder", none), "ladder", "ladder", defArgs s_ladder, defBody s_ladder, defScope s_ladder, [], []⟩
def d_turned : He.DefD := ⟨("turned", none), "turned", "turned", defArgs s_turned, defBody s_turned, defScope s_turned, [], []⟩
def d_slowly : He.DefD := ⟨("slowly", none), "slowly", "slowly", defArgs s_slowly, defBody s_slowly, defScope s_slowly, [], []⟩
def d_slow : He.DefD := ⟨("slow", none), "slow", "slow", defArgs s_slow, defBody s_slow, defScope s_slow, [], []⟩
def d_half_of : He.DefD := ⟨("half_of", none), "half_of", "half_of", defArgs s_half_of, defBody s_half_of, defScope s_half_of, [], []⟩
def d_is_short : He.DefD := ⟨("is_short", none), "is_short", "is_short", defArgs s_is_short, defBody s_is_short, defScope s_is_short, [], []⟩
def d_by_halves : He.DefD := ⟨("by_halves", none), "by_halves", "by_halves", defArgs s_by_halves, defBody s_by_halves, defScope s_by_halves, [], []⟩
def d_product : He.DefD := ⟨("product", none), "product", "product", defArgs s_product, defBody s_product, defScope s_product, [], []⟩
def d_efforts : He.DefD := ⟨("efforts", none), "efforts", "efforts", defArgs s_efforts, defBody s_efforts, defScope s_efforts, [], []⟩
def d_effort : He.DefD := ⟨("effort", none), "effort", "effort", defArgs s_effort, defBody s_effort, defScope s_effort, [], []⟩
def d_written : He.DefD := ⟨("written", none), "written", "written", defArgs s_written, defBody s_written, defScope s_written, [], []⟩
def d_is_figures : He.DefD := ⟨("is_figures", none), "is_figures", "is_figures", defArgs s_is_figures, defBody s_is_figures, defScope s_is_figures, [], []⟩
def d_read : He.DefD := ⟨("read", none), "read", "read", defArgs s_read, defBody s_read, defScope s_read, [], []⟩
def d__law_draw : He.DefD := ⟨("_law_draw", none), "_law_draw", "_law_draw", defArgs s__law_draw, defBody s__law_draw, defScope s__law_draw, [], []⟩
def d__law_call : He.DefD := ⟨("_law_call", none), "_law_call", "_law_call", defArgs s__law_call, defBody s__law_call, defScope s__law_call, [], []⟩
def d__law_told : He.DefD := ⟨("_law_told", none), "_law_told", "_law_told", defArgs s__law_told, defBody s__law_told, defScope s__law_told, [], []⟩
def d__law_copy : He.DefD := ⟨("_law_copy", none), "_law_copy", "_law_copy", defArgs s__law_copy, defBody s__law_copy, defScope s__law_copy, [], []⟩
def d__law_bad_row : He.DefD := ⟨("_law_bad_row", none), "_law_bad_row", "_law_bad_row", defArgs s__law_bad_row, defBody s__law_bad_row, defScope s__law_bad_row, [], []⟩
def d__law_third : He.DefD := ⟨("_law_third", none), "_law_third", "_law_third", defArgs s__law_third, defBody s__law_third, defScope s__law_third, [], []⟩
def d__law_cannot : He.DefD := ⟨("_law_cannot", none), "_law_cannot", "_law_cannot", defArgs s__law_cannot, defBody s__law_cannot, defScope s__law_cannot, [], []⟩
def d__law_answers : He.DefD := ⟨("_law_answers", none), "_law_answers", "_law_answers", defArgs s__law_answers, defBody s__law_answers, defScope s__law_answers, [], []⟩
def d__law_due : He.DefD := ⟨("_law_due", none), "_law_due", "_law_due", defArgs s__law_due, defBody s__law_due, defScope s__law_due, [], []⟩
def d_law : He.DefD := ⟨("law", none), "law", "law", defArgs s_law, defBody s_law, defScope s_law, [], []⟩
def fn : List He.DefD := [d_is_whole, d_is_base, d_need_base, d_is_figure, d_is_row, d_need_row, d_need_figure, d_need_count, d_trimmed, d_row_of, d_number_of, d_order, d_figure_at, d_summed, d_added, d_less_by, d_taken, d_times, d_scaled, d_moved_up, d_shifted, d_parts_of, d_parted, d_top_of, d_often, d_shares, d_divided, d_ladder, d_turned, d_slowly, d_slow, d_half_of, d_is_short, d_by_halves, d_product, d_efforts, d_effort, d_written, d_is_figures, d_read, d__law_draw, d__law_call, d__law_told, d__law_copy, d__law_bad_row, d__law_third, d__law_cannot, d__law_answers, d__law_due, d_law]
def fa : List He.Fa := [.glo "is_whole", .glo "is_base", .glo "need_base", .glo "is_figure", .glo "is_row", .glo "need_row", .glo "need_figure", .glo "need_count", .glo "trimmed", .glo "row_of", .glo "number_of", .glo "order", .glo "figure_at", .glo "summed", .glo "added", .glo "less_by", .glo "taken", .glo "times", .glo "scaled", .glo "moved_up", .glo "shifted", .glo "parts_of", .glo "parted", .glo "top_of", .glo "often", .glo "shares", .glo "divided", .glo "ladder", .glo "turned", .glo "slowly", .glo "slow", .glo "half_of", .glo "is_short", .glo "by_halves", .glo "product", .glo "efforts", .glo "effort", .glo "written", .glo "is_figures", .glo "read", .glo "_law_draw", .glo "_law_call", .glo "_law_told", .glo "_law_copy", .glo "_law_bad_row", .glo "_law_third", .glo "_law_cannot", .glo "_law_answers", .glo "_law_due", .glo "law", .free "len", .free "range", .free "max", .free "reversed", .free "min", .free "enumerate", .free "isinstance", .free "int", .free "bool", .int "LEAST_BASE" 2, .int "MOST_BASE" 1000000, .free "list", .int "LEAST" 3, .str "SIGNS" "0123456789", .free "str", .free "ValueError", .glo "NoBase", .exc "NoBase", .glo "NoRow", .exc "NoRow", .glo "NoFigure", .exc "NoFigure", .glo "NoCount", .exc "NoCount", .glo "BelowNought", .exc "BelowNought", .glo "ByNought", .exc "ByNought", .glo "RowError", .exm "NoBase" "RowError" true, .exm "NoRow" "RowError" true, .exm "NoFigure" "RowError" true, .exm "NoCount" "RowError" true, .exm "BelowNought" "RowError" true, .exm "ByNought" "RowError" true]
def loose0 : List PySem.Str := ["RowError", "NoBase", "NoRow", "NoFigure", "NoCount", "BelowNought", "ByNought", "LEAST_BASE", "MOST_BASE", "is_whole", "is_base", "need_base", "is_figure", "is_row", "need_row", "need_figure", "need_count", "trimmed", "row_of", "number_of", "order", "figure_at", "summed", "added", "less_by", "taken", "times", "scaled", "moved_up", "shifted"]
def loose1 : List PySem.Str := ["parts_of", "parted", "top_of", "often", "shares", "divided", "ladder", "turned", "LEAST", "slowly", "slow", "half_of", "is_short", "by_halves", "product", "efforts", "effort", "SIGNS", "written", "is_figures", "read", "_law_draw", "_law_call", "_law_told", "_law_copy", "_law_bad_row", "_law_third", "_law_cannot", "_law_answers", "_law_due"]
def loose : List PySem.Str := loose0 ++ loose1
abbrev R : PySem.W.OpenRow := PySem.W.OpenLaw.row PySem.Challenge.rw_figrow_k14_refusals
def ex : List ExF := [.own "NoBase", .own "NoRow", .own "NoFigure", .own "NoCount", .own "BelowNought", .own "ByNought", .kitT "NoBase" "ValueError" true, .kitT "NoRow" "ValueError" true, .kitT "NoFigure" "ValueError" true, .kitT "NoCount" "ValueError" true, .kitT "BelowNought" "ValueError" true, .kitT "ByNought" "ValueError" true, .kit "NoBase" "NoBase" true, .kit "NoBase" "NoRow" false, .kit "NoBase" "NoFigure" false, .kit "NoBase" "NoCount" false, .kit "NoBase" "BelowNought" false, .kit "NoBase" "ByNought" false, .kit "NoRow" "NoBase" false, .kit "NoRow" "NoRow" true, .kit "NoRow" "NoFigure" false, .kit "NoRow" "NoCount" false, .kit "NoRow" "BelowNought" false, .kit "NoRow" "ByNought" false, .kit "NoFigure" "NoBase" false, .kit "NoFigure" "NoRow" false, .kit "NoFigure" "NoFigure" true, .kit "NoFigure" "NoCount" false, .kit "NoFigure" "BelowNought" false, .kit "NoFigure" "ByNought" false, .kit "NoCount" "NoBase" false, .kit "NoCount" "NoRow" false, .kit "NoCount" "NoFigure" false, .kit "NoCount" "NoCount" true, .kit "NoCount" "BelowNought" false, .kit "NoCount" "ByNought" false, .kit "BelowNought" "NoBase" false, .kit "BelowNought" "NoRow" false, .kit "BelowNought" "NoFigure" false, .kit "BelowNought" "NoCount" false, .kit "BelowNought" "BelowNought" true, .kit "BelowNought" "ByNought" false, .kit "ByNought" "NoBase" false, .kit "ByNought" "NoRow" false, .kit "ByNought" "NoFigure" false, .kit "ByNought" "NoCount" false, .kit "ByNought" "BelowNought" false, .kit "ByNought" "ByNought" true]
abbrev hk : PySem.W.Hook := hookF 4 fa fn ex
def ob (s : PySem.W.SharedT) : AlF := obsFG 4 fa fn ex (HandSHeadRun.getT s)
theorem ob_eq (s : PySem.W.SharedT) : ob s = hk.obs s.abs := obsFG_eq (HandSHeadRun.getT_eq s)
theorem run (w : World) : HandSHeadRun.RunEq R (PySem.W.view R.prog [67]) hk ob 4000 loose w := by
  intro os
  kernel_rfl
theorem facts {P : Program} {w : World} {K : PySem.W.Frag} {h : Heap} {mg : Str → Option Value} {f : Addr} (X : K.In h) (G : h.Ns mainGlobals mg) (hfa : mg ("law" : Str) = some (.ref f)) (c : He.SaysD fa fn K) (cx : (ex.all fun e => e.ok K) = true) :
    ∃ fd : FuncData, (∀ (s : Shared) (v : Value), BindsTo s fd ⟨[v], []⟩ [("_law_script", v)]) ∧ ∀ base : Heap, K.In base → base.Ns mainGlobals mg → FnOk P w K mg base CX0 17 f fd ["_law_script"] (spLaw K) := by
  have D_is_whole : Dfn K mg "is_whole" s_is_whole := Dfn.of c X G 0 0 rfl rfl
  have D_is_base : Dfn K mg "is_base" s_is_base := Dfn.of c X G 1 1 rfl rfl
  have D_need_base : Dfn K mg "need_base" s_need_base := Dfn.of c X G 2 2 rfl rfl
  have D_is_figure : Dfn K mg "is_figure" s_is_figure := Dfn.of c X G 3 3 rfl rfl
  have D_is_row : Dfn K mg "is_row" s_is_row := Dfn.of c X G 4 4 rfl rfl
  have D_need_row : Dfn K mg "need_row" s_need_row := Dfn.of c X G 5 5 rfl rfl
  have D_need_figure : Dfn K mg "need_figure" s_need_figure := Dfn.of c X G 6 6 rfl rfl
  have D_need_count : Dfn K mg "need_count" s_need_count := Dfn.of c X G 7 7 rfl rfl
  have D_trimmed : Dfn K mg "trimmed" s_trimmed := Dfn.of c X G 8 8 rfl rfl
  have D_row_of : Dfn K mg "row_of" s_row_of := Dfn.of c X G 9 9 rfl rfl
  have D_number_of : Dfn K mg "number_of" s_number_of := Dfn.of c X G 10 10 rfl rfl
  have D_order : Dfn K mg "order" s_order := Dfn.of c X G 11 11 rfl rfl
  have D_figure_at : Dfn K mg "figure_at" s_figure_at := Dfn.of c X G 12 12 rfl rfl
  have D_summed : Dfn K mg "summed" s_summed := Dfn.of c X G 13 13 rfl rfl
  have D_added : Dfn K mg "added" s_added := Dfn.of c X G 14 14 rfl rfl
  have D_less_by : Dfn K mg "less_by" s_less_by := Dfn.of c X G 15 15 rfl rfl
  have D_taken : Dfn K mg "taken" s_taken := Dfn.of c X G 16 16 rfl rfl
  have D_times : Dfn K mg "times" s_times := Dfn.of c X G 17 17 rfl rfl
  have D_scaled : Dfn K mg "scaled" s_scaled := Dfn.of c X G 18 18 rfl rfl
  have D_moved_up : Dfn K mg "moved_up" s_moved_up := Dfn.of c X G 19 19 rfl rfl
  have D_shifted : Dfn K mg "shifted" s_shifted := Dfn.of c X G 20 20 rfl rfl
  have D_parts_of : Dfn K mg "parts_of" s_parts_of := Dfn.of c X G 21 21 rfl rfl
  have D_parted : Dfn K mg "parted" s_parted := Dfn.of c X G 22 22 rfl rfl
  have D_top_of : Dfn K mg "top_of" s_top_of := Dfn.of c X G 23 23 rfl rfl
  have D_often : Dfn K mg "often" s_often := Dfn.of c X G 24 24 rfl rfl
  have D_shares : Dfn K mg "shares" s_shares := Dfn.of c X G 25 25 rfl rfl
  have D_divided : Dfn K mg "divided" s_divided := Dfn.of c X G 26 26 rfl rfl
  have D_ladder : Dfn K mg "ladder" s_ladder := Dfn.of c X G 27 27 rfl rfl
  have D_turned : Dfn K mg "turned" s_turned := Dfn.of c X G 28 28 rfl rfl
  have D_slowly : Dfn K mg "slowly" s_slowly := Dfn.of c X G 29 29 rfl rfl
  have D_slow : Dfn K mg "slow" s_slow := Dfn.of c X G 30 30 rfl rfl
  have D_half_of : Dfn K mg "half_of" s_half_of := Dfn.of c X G 31 31 rfl rfl
  have D_is_short : Dfn K mg "is_short" s_is_short := Dfn.of c X G 32 32 rfl rfl
  have D_by_halves : Dfn K mg "by_halves" s_by_halves := Dfn.of c X G 33 33 rfl rfl
  have D_product : Dfn K mg "product" s_product := Dfn.of c X G 34 34 rfl rfl
  have D_efforts : Dfn K mg "efforts" s_efforts := Dfn.of c X G 35 35 rfl rfl
  have D_effort : Dfn K mg "effort" s_effort := Dfn.of c X G 36 36 rfl rfl
  have D_written : Dfn K mg "written" s_written := Dfn.of c X G 37 37 rfl rfl
  have D_is_figures : Dfn K mg "is_figures" s_is_figures := Dfn.of c X G 38 38 rfl rfl
  have D_read : Dfn K mg "read" s_read := Dfn.of c X G 39 39 rfl rfl
  have D__law_draw : Dfn K mg "_law_draw" s__law_draw := Dfn.of c X G 40 40 rfl rfl
  have D__law_call : Dfn K mg "_law_call" s__law_call := Dfn.of c X G 41 41 rfl rfl
  have D__law_told : Dfn K mg "_law_told" s__law_told := Dfn.of c X G 42 42 rfl rfl
  have D__law_copy : Dfn K mg "_law_copy" s__law_copy := Dfn.of c X G 43 43 rfl rfl
  have D__law_bad_row : Dfn K mg "_law_bad_row" s__law_bad_row := Dfn.of c X G 44 44 rfl rfl
  have D__law_third : Dfn K mg "_law_third" s__law_third := Dfn.of c X G 45 45 rfl rfl
  have D__law_cannot : Dfn K mg "_law_cannot" s__law_cannot := Dfn.of c X G 46 46 rfl rfl
  have D__law_answers : Dfn K mg "_law_answers" s__law_answers := Dfn.of c X G 47 47 rfl rfl
  have D__law_due : Dfn K mg "_law_due" s__law_due := Dfn.of c X G 48 48 rfl rfl
  have m_len : mg "len" = none := free_of c X G 50 rfl
  have m_range : mg "range" = none := free_of c X G 51 rfl
  have m_max : mg "max" = none := free_of c X G 52 rfl
  have m_reversed : mg "reversed" = none := free_of c X G 53 rfl
  have m_min : mg "min" = none := free_of c X G 54 rfl
  have m_enumerate : mg "enumerate" = none := free_of c X G 55 rfl
  have m_isinstance : mg "isinstance" = none := free_of c X G 56 rfl
  have m_int : mg "int" = none := free_of c X G 57 rfl
  have m_bool : mg "bool" = none := free_of c X G 58 rfl
  have gc_LEAST_BASE := int_of (x := "LEAST_BASE") (i := 2) c X G 59 rfl
  have gc_MOST_BASE := int_of (x := "MOST_BASE") (i := 1000000) c X G 60 rfl
  have m_list : mg "list" = none := free_of c X G 61 rfl
  have gc_LEAST := int_of (x := "LEAST") (i := 3) c X G 62 rfl
  have gs_SIGNS := He.str_ok (x := "SIGNS") (z := "0123456789") X G (c.fact 63 rfl)
  have m_str : mg "str" = none := free_of c X G 64 rfl
  have m_ValueError : mg "ValueError" = none := free_of c X G 65 rfl
  have g_NoBase := He.glo_ok X G (c.fact 66 (f := .glo "NoBase") rfl)
  have exc_NoBase := He.exc_ok (c.fact 67 (f := .exc "NoBase") rfl)
  have g_NoRow := He.glo_ok X G (c.fact 68 (f := .glo "NoRow") rfl)
  have exc_NoRow := He.exc_ok (c.fact 69 (f := .exc "NoRow") rfl)
  have g_NoFigure := He.glo_ok X G (c.fact 70 (f := .glo "NoFigure") rfl)
  have exc_NoFigure := He.exc_ok (c.fact 71 (f := .exc "NoFigure") rfl)
  have g_NoCount := He.glo_ok X G (c.fact 72 (f := .glo "NoCount") rfl)
  have exc_NoCount := He.exc_ok (c.fact 73 (f := .exc "NoCount") rfl)
  have g_BelowNought := He.glo_ok X G (c.fact 74 (f := .glo "BelowNought") rfl)
  have exc_BelowNought := He.exc_ok (c.fact 75 (f := .exc "BelowNought") rfl)
  have g_ByNought := He.glo_ok X G (c.fact 76 (f := .glo "ByNought") rfl)
  have exc_ByNought := He.exc_ok (c.fact 77 (f := .exc "ByNought") rfl)
  have g_RowError := He.glo_ok X G (c.fact 78 (f := .glo "RowError") rfl)
  have exm_NoBase_RowError := He.exm_ok (c.fact 79 (f := .exm "NoBase" "RowError" true) rfl)
  have exm_NoRow_RowError := He.exm_ok (c.fact 80 (f := .exm "NoRow" "RowError" true) rfl)
  have exm_NoFigure_RowError := He.exm_ok (c.fact 81 (f := .exm "NoFigure" "RowError" true) rfl)
  have exm_NoCount_RowError := He.exm_ok (c.fact 82 (f := .exm "NoCount" "RowError" true) rfl)
  have exm_BelowNought_RowError := He.exm_ok (c.fact 83 (f := .exm "BelowNought" "RowError" true) rfl)
  have exm_ByNought_RowError := He.exm_ok (c.fact 84 (f := .exm "ByNought" "RowError" true) rfl)
  have X_NoBase : Exc1 K mg "NoBase" := ⟨g_NoBase, exc_NoBase⟩
  have X_NoRow : Exc1 K mg "NoRow" := ⟨g_NoRow, exc_NoRow⟩
  have X_NoFigure : Exc1 K mg "NoFigure" := ⟨g_NoFigure, exc_NoFigure⟩
  have X_NoCount : Exc1 K mg "NoCount" := ⟨g_NoCount, exc_NoCount⟩
  have X_BelowNought : Exc1 K mg "BelowNought" := ⟨g_BelowNought, exc_BelowNought⟩
  have X_ByNought : Exc1 K mg "ByNought" := ⟨g_ByNought, exc_ByNought⟩
  have e_NoBase_RowError := exm_NoBase_RowError
  have e_NoRow_RowError := exm_NoRow_RowError
  have e_NoFigure_RowError := exm_NoFigure_RowError
  have e_NoCount_RowError := exm_NoCount_RowError
  have e_BelowNought_RowError := exm_BelowNought_RowError
  have e_ByNought_RowError := exm_ByNought_RowError
  have i_NoBase := own_ok (ex_at cx 0 (f := .own "NoBase") rfl)
  have i_NoRow := own_ok (ex_at cx 1 (f := .own "NoRow") rfl)
  have i_NoFigure := own_ok (ex_at cx 2 (f := .own "NoFigure") rfl)
  have i_NoCount := own_ok (ex_at cx 3 (f := .own "NoCount") rfl)
  have i_BelowNought := own_ok (ex_at cx 4 (f := .own "BelowNought") rfl)
  have i_ByNought := own_ok (ex_at cx 5 (f := .own "ByNought") rfl)
  have kt_NoBase_ValueError := kitT_ok (ex_at cx 6 (f := .kitT "NoBase" "ValueError" true) rfl)
  have kt_NoRow_ValueError := kitT_ok (ex_at cx 7 (f := .kitT "NoRow" "ValueError" true) rfl)
  have kt_NoFigure_ValueError := kitT_ok (ex_at cx 8 (f := .kitT "NoFigure" "ValueError" true) rfl)
  have kt_NoCount_ValueError := kitT_ok (ex_at cx 9 (f := .kitT "NoCount" "ValueError" true) rfl)
  have kt_BelowNought_ValueError := kitT_ok (ex_at cx 10 (f := .kitT "BelowNought" "ValueError" true) rfl)
  have kt_ByNought_ValueError := kitT_ok (ex_at cx 11 (f := .kitT "ByNought" "ValueError" true) rfl)
  have k_NoBase_NoBase := kit_ok (ex_at cx 12 (f := .kit "NoBase" "NoBase" true) rfl)
  have k0_NoBase_NoRow := kit_ok (ex_at cx 13 (f := .kit "NoBase" "NoRow" false) rfl)
  have k0_NoBase_NoFigure := kit_ok (ex_at cx 14 (f := .kit "NoBase" "NoFigure" false) rfl)
  have k0_NoBase_NoCount := kit_ok (ex_at cx 15 (f := .kit "NoBase" "NoCount" false) rfl)
  have k0_NoBase_BelowNought := kit_ok (ex_at cx 16 (f := .kit "NoBase" "BelowNought" false) rfl)
  have k0_NoBase_ByNought := kit_ok (ex_at cx 17 (f := .kit "NoBase" "ByNought" false) rfl)
  have k0_NoRow_NoBase := kit_ok (ex_at cx 18 (f := .kit "NoRow" "NoBase" false) rfl)
  have k_NoRow_NoRow := kit_ok (ex_at cx 19 (f := .kit "NoRow" "NoRow" true) rfl)
  have k0_NoRow_NoFigure := kit_ok (ex_at cx 20 (f := .kit "NoRow" "NoFigure" false) rfl)
  have k0_NoRow_NoCount := kit_ok (ex_at cx 21 (f := .kit "NoRow" "NoCount" false) rfl)
  have k0_NoRow_BelowNought := kit_ok (ex_at cx 22 (f := .kit "NoRow" "BelowNought" false) rfl)
  have k0_NoRow_ByNought := kit_ok (ex_at cx 23 (f := .kit "NoRow" "ByNought" false) rfl)
  have k0_NoFigure_NoBase := kit_ok (ex_at cx 24 (f := .kit "NoFigure" "NoBase" false) rfl)
  have k0_NoFigure_NoRow := kit_ok (ex_at cx 25 (f := .kit "NoFigure" "NoRow" false) rfl)
  have k_NoFigure_NoFigure := kit_ok (ex_at cx 26 (f := .kit "NoFigure" "NoFigure" true) rfl)
  have k0_NoFigure_NoCount := kit_ok (ex_at cx 27 (f := .kit "NoFigure" "NoCount" false) rfl)
  have k0_NoFigure_BelowNought := kit_ok (ex_at cx 28 (f := .kit "NoFigure" "BelowNought" false) rfl)
  have k0_NoFigure_ByNought := kit_ok (ex_at cx 29 (f := .kit "NoFigure" "ByNought" false) rfl)
  have k0_NoCount_NoBase := kit_ok (ex_at cx 30 (f := .kit "NoCount" "NoBase" false) rfl)
  have k0_NoCount_NoRow := kit_ok (ex_at cx 31 (f := .kit "NoCount" "NoRow" false) rfl)
  have k0_NoCount_NoFigure := kit_ok (ex_at cx 32 (f := .kit "NoCount" "NoFigure" false) rfl)
  have k_NoCount_NoCount := kit_ok (ex_at cx 33 (f := .kit "NoCount" "NoCount" true) rfl)
  have k0_NoCount_BelowNought := kit_ok (ex_at cx 34 (f := .kit "NoCount" "BelowNought" false) rfl)
  have k0_NoCount_ByNought := kit_ok (ex_at cx 35 (f := .kit "NoCount" "ByNought" false) rfl)
  have k0_BelowNought_NoBase := kit_ok (ex_at cx 36 (f := .kit "BelowNought" "NoBase" false) rfl)
  have k0_BelowNought_NoRow := kit_ok (ex_at cx 37 (f := .kit "BelowNought" "NoRow" false) rfl)
  have k0_BelowNought_NoFigure := kit_ok (ex_at cx 38 (f := .kit "BelowNought" "NoFigure" false) rfl)
  have k0_BelowNought_NoCount := kit_ok (ex_at cx 39 (f := .kit "BelowNought" "NoCount" false) rfl)
  have k_BelowNought_BelowNought := kit_ok (ex_at cx 40 (f := .kit "BelowNought" "BelowNought" true) rfl)
  have k0_BelowNought_ByNought := kit_ok (ex_at cx 41 (f := .kit "BelowNought" "ByNought" false) rfl)
  have k0_ByNought_NoBase := kit_ok (ex_at cx 42 (f := .kit "ByNought" "NoBase" false) rfl)
  have k0_ByNought_NoRow := kit_ok (ex_at cx 43 (f := .kit "ByNought" "NoRow" false) rfl)
  have k0_ByNought_NoFigure := kit_ok (ex_at cx 44 (f := .kit "ByNought" "NoFigure" false) rfl)
  have k0_ByNought_NoCount := kit_ok (ex_at cx 45 (f := .kit "ByNought" "NoCount" false) rfl)
  have k0_ByNought_BelowNought := kit_ok (ex_at cx 46 (f := .kit "ByNought" "BelowNought" false) rfl)
  have k_ByNought_ByNought := kit_ok (ex_at cx 47 (f := .kit "ByNought" "ByNought" true) rfl)
  obtain ⟨fd, F⟩ := c.def_ 49 (d := d_law) rfl
  have e := hfa.symm.trans (He.glo_ok X G (c.fact 49 (f := .glo "law") rfl))
  cases e
  have b := FunD.bindsA (ps := ["_law_script"]) F fun _ _ _ _ _ _ us hl => match us, hl with | [_], _ => rfl
  refine ⟨fd, fun s v => b s [v] rfl, fun base _ _ => ?_⟩
  have C_trimmed := ok_trimmed (P := P) (w := w) (K := K) (mg := mg) (base := base) D_trimmed m_len
  have C_order := ok_order (P := P) (w := w) (K := K) (mg := mg) (base := base) D_order m_len m_range
  have C_figure_at := ok_figure_at (P := P) (w := w) (K := K) (mg := mg) (base := base) D_figure_at m_len
  have C_summed := ok_summed (P := P) (w := w) (K := K) (mg := mg) (base := base) D_summed m_len m_range m_max C_figure_at
  have C_less_by := ok_less_by (P := P) (w := w) (K := K) (mg := mg) (base := base) D_less_by m_len m_range C_figure_at C_trimmed
  have C_times := ok_times (P := P) (w := w) (K := K) (mg := mg) (base := base) D_times C_trimmed
  have C_moved_up := ok_moved_up (P := P) (w := w) (K := K) (mg := mg) (base := base) D_moved_up
  have C_top_of := ok_top_of (P := P) (w := w) (K := K) (mg := mg) (base := base) D_top_of m_reversed
  have C_often := ok_often (P := P) (w := w) (K := K) (mg := mg) (base := base) D_often m_len m_max m_min C_top_of C_order C_times
  have C_shares := ok_shares (P := P) (w := w) (K := K) (mg := mg) (base := base) D_shares m_len m_max m_reversed C_trimmed C_often C_less_by C_times
  have C_slowly := ok_slowly (P := P) (w := w) (K := K) (mg := mg) (base := base) D_slowly m_enumerate C_summed C_moved_up C_times
  have C_half_of := ok_half_of (P := P) (w := w) (K := K) (mg := mg) (base := base) D_half_of m_len m_max
  have C_is_short := ok_is_short (P := P) (w := w) (K := K) (mg := mg) (base := base) D_is_short m_len m_min
  have C_by_halves := ok_by_halves (P := P) (w := w) (K := K) (mg := mg) (base := base) D_by_halves C_is_short C_slowly C_half_of C_trimmed C_summed C_less_by C_moved_up
  have C_efforts := ok_efforts (P := P) (w := w) (K := K) (mg := mg) (base := base) D_efforts m_len C_is_short C_half_of C_trimmed C_summed
  have C_is_whole := ok_is_whole (P := P) (w := w) (K := K) (mg := mg) (base := base) D_is_whole m_isinstance m_int m_bool
  have C_is_base := ok_is_base (P := P) (w := w) (K := K) (mg := mg) (base := base) D_is_base gc_LEAST_BASE gc_MOST_BASE C_is_whole
  have C_need_base := ok_need_base (P := P) (w := w) (K := K) (mg := mg) (base := base) D_need_base C_is_base
  have C_is_figure := ok_is_figure (P := P) (w := w) (K := K) (mg := mg) (base := base) D_is_figure C_is_whole C_need_base
  have C_is_row := ok_is_row (P := P) (w := w) (K := K) (mg := mg) (base := base) D_is_row m_isinstance m_list C_need_base C_is_figure
  have C_need_row := ok_need_row (P := P) (w := w) (K := K) (mg := mg) (base := base) D_need_row C_is_row
  have C_row_of := ok_row_of (P := P) (w := w) (K := K) (mg := mg) (base := base) D_row_of C_need_base C_is_whole
  have C_parts_of := ok_parts_of (P := P) (w := w) (K := K) (mg := mg) (base := base) D_parts_of m_reversed C_trimmed
  have CX_need_base := ok_need_base_X (P := P) (w := w) (K := K) (mg := mg) (base := base) D_need_base X_NoBase C_is_base
  have CX_need_row := ok_need_row_X (P := P) (w := w) (K := K) (mg := mg) (base := base) D_need_row X_NoRow C_is_row
  have CX_need_figure := ok_need_figure_X (P := P) (w := w) (K := K) (mg := mg) (base := base) D_need_figure X_NoFigure C_is_figure
  have CX_need_count := ok_need_count_X (P := P) (w := w) (K := K) (mg := mg) (base := base) D_need_count X_NoCount C_is_whole
  have CX_added := ok_added_X (P := P) (w := w) (K := K) (mg := mg) (base := base) D_added CX_need_base CX_need_row C_summed
  have CX_taken := ok_taken_X (P := P) (w := w) (K := K) (mg := mg) (base := base) D_taken CX_need_base CX_need_row X_BelowNought C_order C_less_by
  have CX_scaled := ok_scaled_X (P := P) (w := w) (K := K) (mg := mg) (base := base) D_scaled CX_need_base CX_need_row CX_need_figure C_times
  have CX_shifted := ok_shifted_X (P := P) (w := w) (K := K) (mg := mg) (base := base) D_shifted CX_need_base CX_need_row CX_need_count C_moved_up
  have CX_slow := ok_slow_X (P := P) (w := w) (K := K) (mg := mg) (base := base) D_slow CX_need_base CX_need_row C_slowly
  have CX_parted := ok_parted_X (P := P) (w := w) (K := K) (mg := mg) (base := base) D_parted CX_need_base CX_need_row CX_need_figure X_ByNought C_parts_of
  have CX_divided := ok_divided_X (P := P) (w := w) (K := K) (mg := mg) (base := base) D_divided CX_need_base CX_need_row X_ByNought C_shares
  have CX_number_of := ok_number_of_X (P := P) (w := w) (K := K) (mg := mg) (base := base) D_number_of CX_need_base CX_need_row m_reversed
  have CX_product := ok_product_X (P := P) (w := w) (K := K) (mg := mg) (base := base) D_product CX_need_base CX_need_row CX_need_count gc_LEAST C_by_halves
  have CX_effort := ok_effort_X (P := P) (w := w) (K := K) (mg := mg) (base := base) D_effort CX_need_base CX_need_row CX_need_count gc_LEAST C_efforts
  have CX_ladder := ok_ladder_X (P := P) (w := w) (K := K) (mg := mg) (base := base) D_ladder CX_need_base CX_need_row m_list C_shares
  have CX_turned := ok_turned_X (P := P) (w := w) (K := K) (mg := mg) (base := base) D_turned CX_need_base CX_need_row m_list m_reversed C_row_of C_parts_of C_shares
  have CX_is_row := ok_is_row_X (P := P) (w := w) (K := K) (mg := mg) (base := base) D_is_row CX_need_base m_isinstance m_list C_is_figure
  have CX_is_figure := ok_is_figure_X (P := P) (w := w) (K := K) (mg := mg) (base := base) D_is_figure CX_need_base C_is_whole
  have CX_row_of := ok_row_of_X (P := P) (w := w) (K := K) (mg := mg) (base := base) D_row_of CX_need_base X_NoCount X_BelowNought C_is_whole
  have C_is_figures := ok_is_figures (P := P) (w := w) (K := K) (mg := mg) (base := base) D_is_figures gs_SIGNS
  have CX_read := ok_read_X (P := P) (w := w) (K := K) (mg := mg) (base := base) D_read m_reversed m_str m_int m_isinstance X_NoRow CX_need_base C_is_figures C_is_row
  have CX_written := ok_written_X (P := P) (w := w) (K := K) (mg := mg) (base := base) D_written CX_need_base CX_need_row m_reversed m_str
  have C__law_draw := ok_law_draw (P := P) (w := w) (K := K) (mg := mg) (base := base) D__law_draw m_len
  have CX__law_call := ok_law_call_X (P := P) (w := w) (K := K) (mg := mg) (base := base) D__law_call CX_number_of CX_added CX_taken CX_scaled CX_shifted CX_slow CX_product CX_effort CX_parted CX_divided CX_ladder CX_turned CX_written CX_is_row CX_is_figure CX_row_of CX_read
  have C__law_told := ok_law_told (P := P) (w := w) (K := K) (mg := mg) (base := base) D__law_told g_RowError m_isinstance m_len m_ValueError g_NoBase g_NoRow g_NoFigure g_NoCount g_BelowNought g_ByNought e_NoBase_RowError e_NoRow_RowError e_NoFigure_RowError e_NoCount_RowError e_BelowNought_RowError e_ByNought_RowError i_NoBase i_NoRow i_NoFigure i_NoCount i_BelowNought i_ByNought kt_NoBase_ValueError kt_NoRow_ValueError kt_NoFigure_ValueError kt_NoCount_ValueError kt_BelowNought_ValueError kt_ByNought_ValueError k_NoBase_NoBase k0_NoBase_NoRow k0_NoBase_NoFigure k0_NoBase_NoCount k0_NoBase_BelowNought k0_NoBase_ByNought k0_NoRow_NoBase k_NoRow_NoRow k0_NoRow_NoFigure k0_NoRow_NoCount k0_NoRow_BelowNought k0_NoRow_ByNought k0_NoFigure_NoBase k0_NoFigure_NoRow k_NoFigure_NoFigure k0_NoFigure_NoCount k0_NoFigure_BelowNought k0_NoFigure_ByNought k0_NoCount_NoBase k0_NoCount_NoRow k0_NoCount_NoFigure k_NoCount_NoCount k0_NoCount_BelowNought k0_NoCount_ByNought k0_BelowNought_NoBase k0_BelowNought_NoRow k0_BelowNought_NoFigure k0_BelowNought_NoCount k_BelowNought_BelowNought k0_BelowNought_ByNought k0_ByNought_NoBase k0_ByNought_NoRow k0_ByNought_NoFigure k0_ByNought_NoCount k0_ByNought_BelowNought k_ByNought_ByNought CX__law_call
  have C__law_copy := ok_law_copy (P := P) (w := w) (K := K) (mg := mg) (base := base) D__law_copy m_list m_isinstance
  have C__law_bad_row := ok_law_bad_row (P := P) (w := w) (K := K) (mg := mg) (base := base) D__law_bad_row m_len
  have C__law_due := ok_law_due (P := P) (w := w) (K := K) (mg := mg) (base := base) D__law_due
  have C__law_cannot := ok_law_cannot (P := P) (w := w) (K := K) (mg := mg) (base := base) D__law_cannot
  have C__law_answers := ok_law_answers (P := P) (w := w) (K := K) (mg := mg) (base := base) D__law_answers m_isinstance m_bool C_is_row C_is_figure
  have C__law_third := ok_law_third (P := P) (w := w) (K := K) (mg := mg) (base := base) D__law_third
  exact ok_law F m_isinstance m_bool gc_LEAST_BASE gc_MOST_BASE C__law_draw C__law_bad_row C__law_third C__law_due C__law_cannot C__law_answers C_is_base C__law_copy C__law_told
end Fg
open PySem PySem.W PySem.Calls PyProof.Rows
set_option maxHeartbeats 0 in
theorem PySem.Challenge.cw_figrow_k14_refusals_holds : PySem.Challenge.rw_figrow_k14_refusals.Holds := by
  w_on; o_law
  refine HandSHeadRun.head_any (r := OpenLaw.row PySem.Challenge.rw_figrow_k14_refusals) (q := view (OpenLaw.row PySem.Challenge.rw_figrow_k14_refusals).prog [67]) (H := Fg.hk) (ob := Fg.ob) (M := 4000) (loose := Fg.loose) (d := HandSHeadRun.topDef (OpenLaw.row PySem.Challenge.rw_figrow_k14_refusals).prog 67) (kwd := []) Fg.ob_eq
    (by kernel_rfl) (fun s => by kernel_rfl) Fg.run (by kernel_rfl) (by kernel_rfl) (by kernel_rfl) (by rfl) (by first | assumption | decide +kernel) (by decide +kernel) ⟨rfl, rfl, rfl, rfl, rfl, by decide +kernel⟩ ?hw ?hc
  case hw => w_witness2
  case hc =>
    refine L2.walk_ofE (l := PySem.Challenge.rw_figrow_k14_refusals) (n := 63) (k := 17) (x := "_law_script") (CX := L2.CX0) rfl (by decide) (by kernel_rfl) ⟨rfl, by decide, by decide⟩ ?F (fun _ _ _ _ z => z)
    intro w mg fa h Y G hmg0
    obtain ⟨K, KX, c, cx⟩ := Y
    have hmg : mg ("law" : PySem.Str) = some (.ref fa) := by
      have e : (HandSHeadRun.topDef (OpenLaw.row PySem.Challenge.rw_figrow_k14_refusals).prog 67).name = ("law" : PySem.Str) := by kernel_rfl
      rw [← e]
      exact hmg0
    obtain ⟨fd, hb, hF⟩ := Fg.facts (P := (PySem.Challenge.rw_figrow_k14_refusals).prog) (w := w) KX G hmg c cx
    exact ⟨K, fd, Fg.spLaw K, KX, hb, fun H a ns hl _ hS => ⟨a, ns, rfl, hS, fun _ => rfl⟩, hF⟩
