import PyProof.Rows.All
import Wide.All
import OpenK.AllK
import Wide.FinOn
import KE.KStateDown
import Lean
import HandS.ForMost
import HandS.Exc
import HandS.TryOnly
import HandS.ExcOwn
import HandS.ExcIs
import HandS.WordsExc
import HandS.Defaults
import HandS.Style
import HandS.IsInst
import HandS.Wide
import HandS.Rev
import HandS.Head0
import HandS.Head1
import HandS.Head2
import HandS.HeadEnd
import HandS.HeadHook1
import HandS.HeadHook2
import PySem.Challenge.RW_figrow_k13_written_and_read
set_option Elab.async false
set_option linter.all false
/-! the mathematics of rows: plain Lean, no program -/
namespace Fg

def val (b : Nat) : List Nat → Nat
  | [] => 0
  | x :: l => x + b * val b l
def AllLt (b : Nat) (l : List Nat) : Prop := ∀ x ∈ l, x < b
/-- without the noughts at its end -/
def trim : List Nat → List Nat
  | [] => []
  | x :: l => if trim l = [] ∧ x = 0 then [] else x :: trim l
def digits (b n : Nat) : List Nat :=
  if h : 2 ≤ b ∧ 0 < n then n % b :: digits b (n / b) else []
termination_by n
decreasing_by exact Nat.div_lt_self h.2 h.1

theorem digits_zero (b : Nat) : digits b 0 = [] := by
  unfold digits
  rw [dif_neg (by omega)]
theorem digits_pos {b n : Nat} (hb : 2 ≤ b) (hn : 0 < n) : digits b n = n % b :: digits b (n / b) := by
  rw [digits.eq_def]
  rw [dif_pos ⟨hb, hn⟩]
theorem digits_nil {b n : Nat} (hb : 2 ≤ b) : digits b n = [] ↔ n = 0 := by
  constructor
  · intro h
    by_cases hn : 0 < n
    · rw [digits_pos hb hn] at h
      cases h
    · omega
  · rintro rfl
    exact digits_zero b
theorem val_digits {b : Nat} (hb : 2 ≤ b) (n : Nat) : val b (digits b n) = n := by
  induction n using Nat.strongRecOn with
  | ind n ih =>
    by_cases hn : 0 < n
    · rw [digits_pos hb hn]
      show n % b + b * val b (digits b (n / b)) = n
      rw [ih (n / b) (Nat.div_lt_self hn hb)]
      exact Nat.mod_add_div n b
    · have : n = 0 := by omega
      subst this
      rw [digits_zero]
      rfl
theorem digits_lt {b : Nat} (hb : 2 ≤ b) (n : Nat) : AllLt b (digits b n) := by
  induction n using Nat.strongRecOn with
  | ind n ih =>
    by_cases hn : 0 < n
    · rw [digits_pos hb hn]
      intro x hx
      rcases List.mem_cons.mp hx with rfl | hx
      · exact Nat.mod_lt _ (by omega)
      · exact ih (n / b) (Nat.div_lt_self hn hb) x hx
    · have : n = 0 := by omega
      subst this
      rw [digits_zero]
      intro x hx
      cases hx
theorem AllLt.nil {b : Nat} : AllLt b [] := fun _ h => nomatch h
theorem AllLt.cons {b x : Nat} {l : List Nat} (h : x < b) (h2 : AllLt b l) : AllLt b (x :: l) := fun y hy => by
  rcases List.mem_cons.mp hy with rfl | hy
  · exact h
  · exact h2 y hy
theorem AllLt.head {b x : Nat} {l : List Nat} (h : AllLt b (x :: l)) : x < b := h x List.mem_cons_self
theorem AllLt.tail {b x : Nat} {l : List Nat} (h : AllLt b (x :: l)) : AllLt b l := fun y hy => h y (List.mem_cons_of_mem _ hy)
theorem AllLt.append {b : Nat} {l m : List Nat} (h : AllLt b l) (h2 : AllLt b m) : AllLt b (l ++ m) := fun y hy => by
  rcases List.mem_append.mp hy with hy | hy
  · exact h y hy
  · exact h2 y hy
theorem AllLt.one {b x : Nat} (h : x < b) : AllLt b [x] := AllLt.cons h AllLt.nil
theorem AllLt.take {b : Nat} {l : List Nat} (h : AllLt b l) (k : Nat) : AllLt b (l.take k) := fun y hy => h y (List.mem_of_mem_take hy)
theorem AllLt.drop {b : Nat} {l : List Nat} (h : AllLt b l) (k : Nat) : AllLt b (l.drop k) := fun y hy => h y (List.mem_of_mem_drop hy)
theorem AllLt.reverse {b : Nat} {l : List Nat} (h : AllLt b l) : AllLt b l.reverse := fun y hy => h y (List.mem_reverse.mp hy)
theorem AllLt.get {b : Nat} {l : List Nat} (h : AllLt b l) {i : Nat} {x : Nat} (e : l[i]? = some x) : x < b := h x (List.mem_of_getElem? e)

theorem val_append (b : Nat) : ∀ (l m : List Nat), val b (l ++ m) = val b l + b ^ l.length * val b m
  | [], m => by
    show val b m = 0 + b ^ 0 * val b m
    rw [Nat.pow_zero]; omega
  | x :: l, m => by
    show x + b * val b (l ++ m) = (x + b * val b l) + b ^ (l.length + 1) * val b m
    rw [val_append b l m, Nat.pow_succ, Nat.mul_add, Nat.mul_comm (b ^ l.length) b, Nat.mul_assoc]
    omega
theorem val_snoc (b : Nat) (l : List Nat) (x : Nat) : val b (l ++ [x]) = val b l + b ^ l.length * x := by
  rw [val_append]
  show _ + b ^ l.length * (x + b * 0) = _
  rw [Nat.mul_zero, Nat.add_zero]
theorem val_lt {b : Nat} : ∀ {l : List Nat}, AllLt b l → val b l < b ^ l.length
  | [], _ => by
    show 0 < b ^ 0
    rw [Nat.pow_zero]; omega
  | x :: l, h => by
    have h1 := h.head
    have h2 := val_lt h.tail
    show x + b * val b l < b ^ (l.length + 1)
    rw [Nat.pow_succ]
    have : b * (val b l + 1) ≤ b * b ^ l.length := Nat.mul_le_mul_left b h2
    rw [Nat.mul_comm (b ^ l.length) b]
    rw [Nat.mul_add] at this
    omega
theorem val_zeros (b : Nat) : ∀ k, val b (List.replicate k 0) = 0
  | 0 => rfl
  | k + 1 => by
    rw [List.replicate_succ]
    show 0 + b * val b (List.replicate k 0) = 0
    rw [val_zeros b k]; omega
theorem AllLt.zeros {b : Nat} (hb : 0 < b) (k : Nat) : AllLt b (List.replicate k 0) := fun y hy => by
  rw [(List.mem_replicate.mp hy).2]; exact hb

/-! trim -/
theorem trim_cons (x : Nat) (l : List Nat) : trim (x :: l) = if trim l = [] ∧ x = 0 then [] else x :: trim l := rfl
theorem trim_zeros : ∀ k, trim (List.replicate k 0) = []
  | 0 => rfl
  | k + 1 => by
    rw [List.replicate_succ, trim_cons, trim_zeros k, if_pos ⟨rfl, rfl⟩]
theorem trim_snoc_zero : ∀ l : List Nat, trim (l ++ [0]) = trim l
  | [] => rfl
  | x :: l => by
    show trim (x :: (l ++ [0])) = trim (x :: l)
    rw [trim_cons, trim_cons, trim_snoc_zero l]
theorem trim_snoc_pos {y : Nat} (hy : y ≠ 0) : ∀ l : List Nat, trim (l ++ [y]) = l ++ [y]
  | [] => by
    show trim [y] = [y]
    rw [trim_cons, if_neg (fun h => hy h.2)]
    rfl
  | x :: l => by
    show trim (x :: (l ++ [y])) = x :: (l ++ [y])
    rw [trim_cons, trim_snoc_pos hy l, if_neg (fun h => by simp at h)]
theorem trim_append_zeros (l : List Nat) : ∀ k, trim (l ++ List.replicate k 0) = trim l
  | 0 => by rw [List.replicate_zero, List.append_nil]
  | k + 1 => by
    rw [List.replicate_succ', ← List.append_assoc, trim_snoc_zero, trim_append_zeros l k]
theorem trim_length_le : ∀ l : List Nat, (trim l).length ≤ l.length
  | [] => Nat.le_refl _
  | x :: l => by
    have := trim_length_le l
    rw [trim_cons]
    split
    · exact Nat.zero_le _
    · rw [List.length_cons, List.length_cons]; omega
theorem trim_eq_of_length : ∀ {l : List Nat}, l.length ≤ (trim l).length → trim l = l
  | [], _ => rfl
  | x :: l, h => by
    rw [trim_cons] at h ⊢
    split at h
    · simp at h
    · rename_i hc
      rw [if_neg hc]
      rw [List.length_cons, List.length_cons] at h
      rw [trim_eq_of_length (by omega)]
theorem digits_val {b : Nat} (hb : 2 ≤ b) : ∀ {l : List Nat}, AllLt b l → digits b (val b l) = trim l
  | [], _ => digits_zero b
  | x :: l, h => by
    have h1 := h.head
    have ih := digits_val hb h.tail
    show digits b (x + b * val b l) = trim (x :: l)
    rw [trim_cons]
    by_cases hz : x + b * val b l = 0
    · have hx : x = 0 := by omega
      have hv : val b l = 0 := by
        rcases Nat.eq_zero_or_pos (val b l) with h0 | h0
        · exact h0
        · have : 0 < b * val b l := Nat.mul_pos (by omega) h0
          omega
      rw [hv, digits_zero] at ih
      rw [hz, digits_zero, if_pos ⟨ih.symm, hx⟩]
    · rw [digits_pos hb (by omega)]
      have e1 : (x + b * val b l) % b = x := by
        rw [Nat.add_mul_mod_self_left, Nat.mod_eq_of_lt h1]
      have e2 : (x + b * val b l) / b = val b l := by
        rw [Nat.add_mul_div_left _ _ (by omega), Nat.div_eq_of_lt h1, Nat.zero_add]
      rw [e1, e2, ih, if_neg ?_]
      rintro ⟨q1, q2⟩
      rw [q1] at ih
      rw [(digits_nil hb).mp ih, q2] at hz
      simp at hz
theorem trim_digits {b : Nat} (hb : 2 ≤ b) (n : Nat) : trim (digits b n) = digits b n := by
  have h := digits_val hb (digits_lt hb n)
  rw [val_digits hb] at h
  exact h.symm
theorem digits_len_le {b n k : Nat} (hb : 2 ≤ b) (h : n < b ^ k) : (digits b n).length ≤ k := by
  induction k generalizing n with
  | zero =>
    have : n = 0 := by rw [Nat.pow_zero] at h; omega
    subst this
    rw [digits_zero]; exact Nat.le_refl _
  | succ k ih =>
    by_cases hn : 0 < n
    · rw [digits_pos hb hn, List.length_cons]
      have : n / b < b ^ k := by
        rw [Nat.pow_succ] at h
        exact Nat.div_lt_of_lt_mul (by rw [Nat.mul_comm]; exact h)
      have := ih this
      omega
    · have : n = 0 := by omega
      subst this
      rw [digits_zero]; exact Nat.zero_le _
theorem lt_pow_len {b : Nat} (hb : 2 ≤ b) (n : Nat) : n < b ^ (digits b n).length := by
  have h := val_lt (digits_lt hb n)
  rw [val_digits hb] at h
  exact h
theorem digits_len_lt {b n k : Nat} (hb : 2 ≤ b) : (digits b n).length ≤ k ↔ n < b ^ k := by
  constructor
  · intro h
    exact Nat.lt_of_lt_of_le (lt_pow_len hb n) (Nat.pow_le_pow_right (by omega) h)
  · exact digits_len_le hb
theorem digits_len_mono {b n m : Nat} (hb : 2 ≤ b) (h : n ≤ m) : (digits b n).length ≤ (digits b m).length :=
  (digits_len_lt hb).mpr (Nat.lt_of_le_of_lt h (lt_pow_len hb m))
theorem pow_le_of_len {b n k : Nat} (hb : 2 ≤ b) (h : k < (digits b n).length) : b ^ k ≤ n := by
  rcases Nat.lt_or_ge n (b ^ k) with q | q
  · have := digits_len_le hb q
    omega
  · exact q
/-- a list that is a row is the row of its number -/
theorem row_eq {b : Nat} (hb : 2 ≤ b) {l : List Nat} (h : AllLt b l) (ht : trim l = l) : l = digits b (val b l) := by
  rw [digits_val hb h, ht]
theorem row_of_long {b : Nat} (hb : 2 ≤ b) {l : List Nat} (h : AllLt b l) (hn : l.length ≤ (digits b (val b l)).length) : l = digits b (val b l) := by
  refine row_eq hb h (trim_eq_of_length ?_)
  rw [← digits_val hb h]
  exact hn
theorem digits_val_snoc {b : Nat} (hb : 2 ≤ b) {l : List Nat} {y : Nat} (h : AllLt b l) (hy : y < b) (h0 : y ≠ 0) : digits b (val b (l ++ [y])) = l ++ [y] := by
  rw [digits_val hb (h.append (AllLt.one hy)), trim_snoc_pos h0]
theorem digits_last {b n : Nat} (hb : 2 ≤ b) {l : List Nat} {y : Nat} (h : digits b n = l ++ [y]) : y ≠ 0 := by
  intro h0
  have t := trim_digits hb n
  rw [h, h0, trim_snoc_zero] at t
  have := trim_length_le l
  rw [t, List.length_append, List.length_singleton] at this
  omega

/-! parts of a row -/
theorem val_take_drop (b : Nat) (l : List Nat) (k : Nat) (h : k ≤ l.length) : val b l = val b (l.take k) + b ^ k * val b (l.drop k) := by
  have e := val_append b (l.take k) (l.drop k)
  rw [List.take_append_drop, List.length_take, Nat.min_eq_left h] at e
  exact e
theorem val_drop {b : Nat} (hb : 2 ≤ b) {l : List Nat} (h : AllLt b l) (k : Nat) : val b (l.drop k) = val b l / b ^ k := by
  rcases Nat.lt_or_ge l.length k with q | q
  · rw [List.drop_eq_nil_of_le (Nat.le_of_lt q)]
    have := val_lt h
    have h2 : b ^ l.length ≤ b ^ k := Nat.pow_le_pow_right (by omega) (Nat.le_of_lt q)
    exact (Nat.div_eq_of_lt (Nat.lt_of_lt_of_le this h2)).symm
  · have e := val_take_drop b l k q
    have hl := val_lt (h.take k)
    rw [List.length_take, Nat.min_eq_left q] at hl
    rw [e, Nat.add_mul_div_left _ _ (Nat.pow_pos (by omega)), Nat.div_eq_of_lt hl, Nat.zero_add]
theorem val_take {b : Nat} (hb : 2 ≤ b) {l : List Nat} (h : AllLt b l) (k : Nat) : val b (l.take k) = val b l % b ^ k := by
  rcases Nat.lt_or_ge l.length k with q | q
  · rw [List.take_of_length_le (Nat.le_of_lt q)]
    have := val_lt h
    have h2 : b ^ l.length ≤ b ^ k := Nat.pow_le_pow_right (by omega) (Nat.le_of_lt q)
    exact (Nat.mod_eq_of_lt (Nat.lt_of_lt_of_le this h2)).symm
  · have e := val_take_drop b l k q
    have hl := val_lt (h.take k)
    rw [List.length_take, Nat.min_eq_left q] at hl
    rw [e, Nat.add_mul_mod_self_left, Nat.mod_eq_of_lt hl]
theorem digits_drop {b : Nat} (hb : 2 ≤ b) (n k : Nat) : (digits b n).drop k = digits b (n / b ^ k) := by
  induction k generalizing n with
  | zero => rw [Nat.pow_zero, Nat.div_one]; rfl
  | succ k ih =>
    by_cases hn : 0 < n
    · rw [digits_pos hb hn, List.drop_succ_cons, ih, Nat.pow_succ, Nat.mul_comm (b ^ k) b, Nat.div_div_eq_div_mul]
    · have : n = 0 := by omega
      subst this
      rw [Nat.zero_div, digits_zero]; rfl
theorem trim_take {b : Nat} (hb : 2 ≤ b) (n k : Nat) : trim ((digits b n).take k) = digits b (n % b ^ k) := by
  rw [← digits_val hb ((digits_lt hb n).take k), val_take hb (digits_lt hb n), val_digits hb]
theorem digits_mul_pow {b n : Nat} (hb : 2 ≤ b) (hn : 0 < n) (k : Nat) : digits b (n * b ^ k) = List.replicate k 0 ++ digits b n := by
  have e : val b (List.replicate k 0 ++ digits b n) = n * b ^ k := by
    rw [val_append, val_zeros, List.length_replicate, val_digits hb, Nat.zero_add, Nat.mul_comm]
  rw [← e]
  refine (row_of_long hb ((AllLt.zeros (by omega) k).append (digits_lt hb n)) ?_).symm
  rw [e, List.length_append, List.length_replicate]
  have hp : 0 < (digits b n).length := by
    rw [digits_pos hb hn]; exact Nat.succ_pos _
  rcases Nat.lt_or_ge (digits b (n * b ^ k)).length (k + (digits b n).length) with q | q
  · have h1 : n * b ^ k < b ^ (k + (digits b n).length - 1) := (digits_len_lt hb).mp (by omega)
    have h2 : b ^ ((digits b n).length - 1) ≤ n := pow_le_of_len hb (by omega)
    have h3 : b ^ (k + (digits b n).length - 1) = b ^ ((digits b n).length - 1) * b ^ k := by
      rw [← Nat.pow_add]; congr 1; omega
    rw [h3] at h1
    have := Nat.mul_le_mul_right (b ^ k) h2
    omega
  · exact q
theorem digits_one {b : Nat} (hb : 2 ≤ b) : digits b 1 = [1] := by
  rw [digits_pos hb (by omega), Nat.mod_eq_of_lt (by omega), Nat.div_eq_of_lt (by omega), digits_zero]
theorem digits_small {b n : Nat} (hb : 2 ≤ b) (h : n < b) (h0 : 0 < n) : digits b n = [n] := by
  rw [digits_pos hb h0, Nat.mod_eq_of_lt h, Nat.div_eq_of_lt h, digits_zero]
theorem digits_cons {b n x : Nat} (hb : 2 ≤ b) (hx : x < b) (h : 0 < x + b * n) : digits b (x + b * n) = x :: digits b n := by
  rw [digits_pos hb h, Nat.add_mul_mod_self_left, Nat.mod_eq_of_lt hx, Nat.add_mul_div_left _ _ (by omega), Nat.div_eq_of_lt hx, Nat.zero_add]
/-- a row and a figure behind it -/
theorem digits_snoc_one {b : Nat} (hb : 2 ≤ b) (n : Nat) : digits b n ++ [1] = digits b (n + b ^ (digits b n).length) := by
  have h := digits_val_snoc hb (digits_lt hb n) (y := 1) (by omega) (by omega)
  rw [val_snoc, val_digits hb, Nat.mul_one] at h
  exact h.symm
theorem digits_inj {b n m : Nat} (hb : 2 ≤ b) (h : digits b n = digits b m) : n = m := by
  have := congrArg (val b) h
  rw [val_digits hb, val_digits hb] at this
  exact this
end Fg
namespace Fg
/-! ### loops from the top: turn i takes l[len - 1 - i] -/
def top (b : Nat) (l : List Nat) (i : Nat) : Nat := val b (l.drop (l.length - i))
theorem top_zero (b : Nat) (l : List Nat) : top b l 0 = 0 := by
  unfold top
  rw [Nat.sub_zero, List.drop_length]
  rfl
theorem top_all (b : Nat) (l : List Nat) : top b l l.length = val b l := by
  unfold top
  rw [Nat.sub_self]
  rfl
theorem top_succ (b : Nat) (l : List Nat) {i x : Nat} (h : l[l.length - 1 - i]? = some x) (hi : i < l.length) : top b l (i + 1) = x + b * top b l i := by
  unfold top
  have e : l.drop (l.length - (i + 1)) = x :: l.drop (l.length - i) := by
    have h1 : l.length - (i + 1) < l.length := by omega
    have h2 : l[l.length - (i + 1)] = x := by
      have h3 : l.length - 1 - i = l.length - (i + 1) := by omega
      rw [h3, List.getElem?_eq_getElem h1] at h
      exact Option.some.inj h
    rw [List.drop_eq_getElem_cons h1, h2]
    congr 2
    omega
  rw [e]
  rfl
theorem top_lt {b : Nat} {l : List Nat} (h : AllLt b l) (i : Nat) (hi : i ≤ l.length) : top b l i < b ^ i := by
  have := val_lt (h.drop (l.length - i))
  rw [List.length_drop] at this
  have e : l.length - (l.length - i) = i := by omega
  rw [e] at this
  exact this

/-! ### loops from the bottom -/
theorem val_take_succ (b : Nat) (l : List Nat) (i : Nat) : val b (l.take (i + 1)) = val b (l.take i) + b ^ i * l.getD i 0 := by
  rcases Nat.lt_or_ge i l.length with q | q
  · rw [List.take_succ_eq_append_getElem q, val_snoc, List.length_take, Nat.min_eq_left (Nat.le_of_lt q)]
    rw [List.getD_eq_getElem?_getD, List.getElem?_eq_getElem q]
    rfl
  · rw [List.take_of_length_le (by omega), List.take_of_length_le q]
    rw [List.getD_eq_getElem?_getD, List.getElem?_eq_none q]
    rfl
theorem getD_lt {b : Nat} (hb : 0 < b) {l : List Nat} (h : AllLt b l) (i : Nat) : l.getD i 0 < b := by
  rw [List.getD_eq_getElem?_getD]
  cases e : l[i]? with
  | none => exact hb
  | some x => exact h.get e

/-- the sum's loop -/
structure SumI (b : Nat) (one other : List Nat) (i : Nat) (acc : List Nat) (over : Nat) : Prop where
  lt : AllLt b acc
  len : acc.length = i
  ov : over ≤ 1
  eq : val b acc + b ^ i * over = val b (one.take i) + val b (other.take i)
theorem SumI.start (b : Nat) (one other : List Nat) : SumI b one other 0 [] 0 := ⟨AllLt.nil, rfl, by omega, by
  show 0 + b ^ 0 * 0 = 0 + 0
  omega⟩
theorem SumI.step {b : Nat} (hb : 2 ≤ b) {one other : List Nat} {i : Nat} {acc : List Nat} {over : Nat} (h1 : AllLt b one) (h2 : AllLt b other) (s : SumI b one other i acc over) :
    SumI b one other (i + 1) (acc ++ [(one.getD i 0 + other.getD i 0 + over) % b]) ((one.getD i 0 + other.getD i 0 + over) / b) := by
  have a1 := getD_lt (by omega) h1 i
  have a2 := getD_lt (by omega) h2 i
  have a3 := s.ov
  have e1 := val_take_succ b one i
  have e2 := val_take_succ b other i
  generalize one.getD i 0 = x at *
  generalize other.getD i 0 = y at *
  refine ⟨s.lt.append (AllLt.one (Nat.mod_lt _ (by omega))), by rw [List.length_append, s.len]; rfl, ?_, ?_⟩
  · have : (x + y + over) / b < 2 := Nat.div_lt_of_lt_mul (by omega)
    omega
  · rw [val_snoc, s.len, e1, e2]
    have hm := Nat.mod_add_div (x + y + over) b
    have hp : b ^ (i + 1) * ((x + y + over) / b) = b ^ i * (b * ((x + y + over) / b)) := by rw [Nat.pow_succ, Nat.mul_assoc]
    have hq : b ^ i * (x + y + over) = b ^ i * ((x + y + over) % b) + b ^ i * (b * ((x + y + over) / b)) := by rw [← Nat.mul_add, hm]
    have hr : b ^ i * (x + y + over) = b ^ i * x + b ^ i * y + b ^ i * over := by rw [Nat.mul_add, Nat.mul_add]
    have := s.eq
    rw [hp]
    omega
theorem SumI.done {b n m : Nat} (hb : 2 ≤ b) {acc : List Nat} {over : Nat} (s : SumI b (digits b n) (digits b m) (max (digits b n).length (digits b m).length) acc over) :
    (if 0 < over then acc ++ [over] else acc) = digits b (n + m) := by
  have e := s.eq
  rw [List.take_of_length_le (Nat.le_max_left _ _), List.take_of_length_le (Nat.le_max_right _ _), val_digits hb, val_digits hb] at e
  have ho := s.ov
  split
  · rename_i h0
    have := digits_val_snoc hb s.lt (y := over) (by omega) (by omega)
    rw [val_snoc, s.len, e] at this
    exact this.symm
  · rename_i h0
    have h0 : over = 0 := by omega
    rw [h0, Nat.mul_zero, Nat.add_zero] at e
    rw [← e]
    refine row_of_long hb s.lt ?_
    rw [e, s.len]
    have l1 : (digits b n).length ≤ (digits b (n + m)).length := digits_len_mono hb (by omega)
    have l2 : (digits b m).length ≤ (digits b (n + m)).length := digits_len_mono hb (by omega)
    exact Nat.max_le.mpr ⟨l1, l2⟩

/-- the difference's loop -/
structure DifI (b : Nat) (one other : List Nat) (i : Nat) (acc : List Nat) (owed : Nat) : Prop where
  lt : AllLt b acc
  len : acc.length = i
  ov : owed ≤ 1
  eq : val b (one.take i) + b ^ i * owed = val b acc + val b (other.take i)
theorem DifI.start (b : Nat) (one other : List Nat) : DifI b one other 0 [] 0 := ⟨AllLt.nil, rfl, by omega, by
  show 0 + b ^ 0 * 0 = 0 + 0
  omega⟩
/-- no debt -/
theorem DifI.step0 {b : Nat} (hb : 2 ≤ b) {one other : List Nat} {i : Nat} {acc : List Nat} {owed z : Nat} (h1 : AllLt b one) (h2 : AllLt b other) (s : DifI b one other i acc owed)
    (hz : z + other.getD i 0 + owed = one.getD i 0) : DifI b one other (i + 1) (acc ++ [z]) 0 := by
  have a1 := getD_lt (by omega) h1 i
  have e1 := val_take_succ b one i
  have e2 := val_take_succ b other i
  generalize one.getD i 0 = x at *
  generalize other.getD i 0 = y at *
  refine ⟨s.lt.append (AllLt.one (by omega)), by rw [List.length_append, s.len]; rfl, by omega, ?_⟩
  rw [val_snoc, s.len, e1, e2]
  have hr : b ^ i * x = b ^ i * z + b ^ i * y + b ^ i * owed := by rw [← Nat.mul_add, ← Nat.mul_add, hz]
  have := s.eq
  omega
theorem DifI.step1 {b : Nat} (hb : 2 ≤ b) {one other : List Nat} {i : Nat} {acc : List Nat} {owed z : Nat} (h1 : AllLt b one) (h2 : AllLt b other) (s : DifI b one other i acc owed)
    (hz : z + other.getD i 0 + owed = one.getD i 0 + b) (hl : z < b) : DifI b one other (i + 1) (acc ++ [z]) 1 := by
  have a1 := getD_lt (by omega) h1 i
  have e1 := val_take_succ b one i
  have e2 := val_take_succ b other i
  generalize one.getD i 0 = x at *
  generalize other.getD i 0 = y at *
  refine ⟨s.lt.append (AllLt.one hl), by rw [List.length_append, s.len]; rfl, by omega, ?_⟩
  rw [val_snoc, s.len, e1, e2]
  have hr : b ^ i * x + b ^ i * b = b ^ i * z + b ^ i * y + b ^ i * owed := by rw [← Nat.mul_add, ← Nat.mul_add, ← Nat.mul_add, hz]
  have hp : b ^ (i + 1) * 1 = b ^ i * b := by rw [Nat.pow_succ, Nat.mul_one]
  have := s.eq
  omega
theorem DifI.done {b n m : Nat} (hb : 2 ≤ b) (hle : m ≤ n) {acc : List Nat} {owed : Nat} (s : DifI b (digits b n) (digits b m) (digits b n).length acc owed) : trim acc = digits b (n - m) := by
  have e := s.eq
  rw [List.take_of_length_le (Nat.le_refl _), List.take_of_length_le (digits_len_mono hb hle), val_digits hb, val_digits hb] at e
  have hv := val_lt s.lt
  rw [s.len] at hv
  have ho := s.ov
  have : owed = 0 := by
    rcases Nat.eq_zero_or_pos owed with q | q
    · exact q
    · have h1 : owed = 1 := by omega
      rw [h1, Nat.mul_one] at e
      omega
  rw [this, Nat.mul_zero] at e
  rw [← digits_val hb s.lt]
  congr 1
  omega

/-- the scaled row's loop -/
structure MulI (b : Nat) (one : List Nat) (f i : Nat) (acc : List Nat) (over : Nat) : Prop where
  lt : AllLt b acc
  len : acc.length = i
  ov : over < b
  eq : val b acc + b ^ i * over = f * val b (one.take i)
theorem MulI.start {b : Nat} (hb : 2 ≤ b) (one : List Nat) (f : Nat) : MulI b one f 0 [] 0 := ⟨AllLt.nil, rfl, by omega, by
  show 0 + b ^ 0 * 0 = f * 0
  omega⟩
theorem MulI.step {b : Nat} (hb : 2 ≤ b) {one : List Nat} {f i x : Nat} {acc : List Nat} {over : Nat} (h1 : AllLt b one) (hf : f < b) (hx : one[i]? = some x) (s : MulI b one f i acc over) :
    MulI b one f (i + 1) (acc ++ [(x * f + over) % b]) ((x * f + over) / b) := by
  have a1 : x < b := h1.get hx
  have e1 := val_take_succ b one i
  have ex : one.getD i 0 = x := by rw [List.getD_eq_getElem?_getD, hx]; rfl
  rw [ex] at e1
  have ho := s.ov
  refine ⟨s.lt.append (AllLt.one (Nat.mod_lt _ (by omega))), by rw [List.length_append, s.len]; rfl, ?_, ?_⟩
  · refine Nat.div_lt_of_lt_mul ?_
    have h2 : x * f ≤ (b - 1) * (b - 1) := Nat.mul_le_mul (by omega) (by omega)
    have h3 : (b - 1) * (b - 1) + (b - 1) = (b - 1) * b := by
      rw [← Nat.mul_succ]; congr 1; omega
    have h4 : (b - 1) * b + b = b * b := by
      rw [← Nat.succ_mul]; congr 1; omega
    omega
  · rw [val_snoc, s.len, e1]
    have hm := Nat.mod_add_div (x * f + over) b
    have hp : b ^ (i + 1) * ((x * f + over) / b) = b ^ i * (b * ((x * f + over) / b)) := by rw [Nat.pow_succ, Nat.mul_assoc]
    have hq : b ^ i * (x * f + over) = b ^ i * ((x * f + over) % b) + b ^ i * (b * ((x * f + over) / b)) := by rw [← Nat.mul_add, hm]
    have hr : b ^ i * (x * f + over) = b ^ i * (x * f) + b ^ i * over := by rw [Nat.mul_add]
    have hs : f * (val b (one.take i) + b ^ i * x) = f * val b (one.take i) + b ^ i * (x * f) := by
      rw [Nat.mul_add, Nat.mul_left_comm f (b ^ i) x, Nat.mul_comm f x]
    have := s.eq
    rw [hp, hs]
    omega
theorem MulI.done {b n f : Nat} (hb : 2 ≤ b) {acc : List Nat} {over : Nat} (s : MulI b (digits b n) f (digits b n).length acc over) : trim (if 0 < over then acc ++ [over] else acc) = digits b (n * f) := by
  have e := s.eq
  rw [List.take_of_length_le (Nat.le_refl _), val_digits hb] at e
  have ho := s.ov
  split
  · rw [← digits_val hb (s.lt.append (AllLt.one ho)), val_snoc, s.len, e, Nat.mul_comm]
  · rename_i h0
    have h0 : over = 0 := by omega
    rw [h0, Nat.mul_zero, Nat.add_zero] at e
    rw [← digits_val hb s.lt, e, Nat.mul_comm]

/-- dividing from the top: by f, the base b -/
structure PartI (b T f : Nat) (i : Nat) (found : List Nat) (left : Nat) : Prop where
  lt : AllLt b found
  len : found.length = i
  q : val b found.reverse = T / f
  r : left = T % f
theorem PartI.start {b f : Nat} {T : Nat} (h : T < f) : PartI b T f 0 [] T := ⟨AllLt.nil, rfl, by
  rw [Nat.div_eq_of_lt h]; rfl, (Nat.mod_eq_of_lt h).symm⟩
theorem div_step {b T f x : Nat} (hf : 0 < f) : (x + b * T) / f = b * (T / f) + (x + b * (T % f)) / f ∧ (x + b * T) % f = (x + b * (T % f)) % f := by
  have h := Nat.mod_add_div T f
  have e : x + b * T = (x + b * (T % f)) + f * (b * (T / f)) := by
    have h2 : b * T = b * (T % f) + b * (f * (T / f)) := by rw [← Nat.mul_add, h]
    rw [h2, Nat.mul_left_comm b f]
    omega
  rw [e]
  constructor
  · rw [Nat.add_mul_div_left _ _ hf, Nat.add_comm]
  · rw [Nat.add_mul_mod_self_left]
theorem rem_step_lt {b f x left : Nat} (hx : x < b) (hl : left < f) : x + b * left < f * b := by
  have : b * (left + 1) ≤ b * f := Nat.mul_le_mul_left b hl
  rw [Nat.mul_comm f b]
  rw [Nat.mul_add] at this
  omega
theorem PartI.step {b T f x i : Nat} {found : List Nat} {left : Nat} (hf : 0 < f) (hx : x < b) (s : PartI b T f i found left) :
    PartI b (x + b * T) f (i + 1) (found ++ [(x + b * left) / f]) ((x + b * left) % f) := by
  have hr := s.r
  have hl : left < f := by rw [hr]; exact Nat.mod_lt _ hf
  obtain ⟨d1, d2⟩ := div_step (b := b) (T := T) (x := x) hf
  refine ⟨s.lt.append (AllLt.one ?_), by rw [List.length_append, s.len]; rfl, ?_, ?_⟩
  · exact Nat.div_lt_of_lt_mul (rem_step_lt hx hl)
  · rw [List.reverse_append]
    show (x + b * left) / f + b * val b found.reverse = _
    rw [s.q, d1, hr]
    omega
  · rw [d2, hr]
theorem PartI.done {b T f i : Nat} {found : List Nat} {left : Nat} (hb : 2 ≤ b) (s : PartI b T f i found left) : trim found.reverse = digits b (T / f) := by
  rw [← digits_val hb s.lt.reverse, s.q]

/-- the search for a figure of the quotient -/
theorem often_start {b n m at_ : Nat} (hb : 2 ≤ b) (hm : 0 < m) (hn : n < m * b) (hlead : b ^ at_ ≤ m) :
    (n / b ^ at_) / (m / b ^ at_ + 1) ≤ n / m ∧ n / m ≤ min (b - 1) ((n / b ^ at_) / (m / b ^ at_)) ∧ 0 < m / b ^ at_ := by
  have hB : 0 < b ^ at_ := Nat.pow_pos (by omega)
  have hl : 0 < m / b ^ at_ := Nat.div_pos hlead hB
  have hnb : n / m < b := Nat.div_lt_of_lt_mul hn
  refine ⟨?_, Nat.le_min.mpr ⟨by omega, ?_⟩, hl⟩
  · rw [Nat.le_div_iff_mul_le hm]
    have h1 : (n / b ^ at_) / (m / b ^ at_ + 1) * (m / b ^ at_ + 1) ≤ n / b ^ at_ := Nat.div_mul_le_self _ _
    have h2 : m ≤ (m / b ^ at_ + 1) * b ^ at_ := by
      have := Nat.mod_add_div m (b ^ at_)
      have h3 := Nat.mod_lt m hB
      rw [Nat.add_mul, Nat.one_mul, Nat.mul_comm (m / b ^ at_)]
      omega
    have h3 := Nat.mul_le_mul_left ((n / b ^ at_) / (m / b ^ at_ + 1)) h2
    rw [← Nat.mul_assoc] at h3
    have h4 := Nat.mul_le_mul_right (b ^ at_) h1
    have h5 : n / b ^ at_ * b ^ at_ ≤ n := Nat.div_mul_le_self _ _
    omega
  · rw [Nat.le_div_iff_mul_le hl, Nat.le_div_iff_mul_le hB, Nat.mul_assoc]
    have h1 : m / b ^ at_ * b ^ at_ ≤ m := Nat.div_mul_le_self _ _
    have h2 := Nat.mul_le_mul_left (n / m) h1
    have h3 : n / m * m ≤ n := Nat.div_mul_le_self _ _
    omega

/-- which row is the greater -/
theorem cmp_top {b : Nat} (hb : 2 ≤ b) {one other : List Nat} {a x y : Nat} (h1 : AllLt b one) (h2 : AllLt b other) (ha : a < one.length) (ha2 : a < other.length)
    (hd : one.drop (a + 1) = other.drop (a + 1)) (hx : one[a]? = some x) (hy : other[a]? = some y) (h : x < y) : val b one < val b other := by
  have e1 := val_take_drop b one a (by omega)
  have e2 := val_take_drop b other a (by omega)
  rw [List.drop_eq_getElem_cons ha] at e1
  rw [List.drop_eq_getElem_cons ha2] at e2
  rw [List.getElem?_eq_getElem ha] at hx
  rw [List.getElem?_eq_getElem ha2] at hy
  rw [Option.some.inj hx] at e1
  rw [Option.some.inj hy, ← hd] at e2
  have l1 := val_lt (h1.take a)
  rw [List.length_take, Nat.min_eq_left (by omega)] at l1
  have e1' : val b one = val b (one.take a) + b ^ a * (x + b * val b (one.drop (a + 1))) := e1
  have e2' : val b other = val b (other.take a) + b ^ a * (y + b * val b (one.drop (a + 1))) := e2
  generalize b * val b (one.drop (a + 1)) = R at *
  have h3 : b ^ a * (x + R + 1) ≤ b ^ a * (y + R) := Nat.mul_le_mul_left _ (by omega)
  rw [Nat.mul_add, Nat.mul_one] at h3
  omega

/-- the product by halves -/
theorem halves_eq {n0 n1 m0 m1 B : Nat} : n0 * m0 + ((n0 + n1) * (m0 + m1) - n0 * m0 - n1 * m1) * B + n1 * m1 * (B * B) = (n0 + B * n1) * (m0 + B * m1) := by
  have h : (n0 + n1) * (m0 + m1) - n0 * m0 - n1 * m1 = n0 * m1 + n1 * m0 := by
    have : (n0 + n1) * (m0 + m1) = n0 * m0 + n0 * m1 + (n1 * m0 + n1 * m1) := by
      rw [Nat.add_mul, Nat.mul_add, Nat.mul_add]
    omega
  rw [h]
  have : (n0 + B * n1) * (m0 + B * m1) = n0 * m0 + n0 * (B * m1) + (B * n1 * m0 + B * n1 * (B * m1)) := by
    rw [Nat.add_mul, Nat.mul_add, Nat.mul_add]
  rw [this, Nat.add_mul]
  have a1 : n0 * (B * m1) = n0 * m1 * B := by rw [Nat.mul_comm B m1, Nat.mul_assoc]
  have a2 : B * n1 * m0 = n1 * m0 * B := by rw [Nat.mul_comm B n1, Nat.mul_assoc, Nat.mul_comm B m0, ← Nat.mul_assoc]
  have a3 : B * n1 * (B * m1) = n1 * m1 * (B * B) := by
    rw [Nat.mul_comm B n1, Nat.mul_assoc, Nat.mul_assoc]
    congr 1
    rw [← Nat.mul_assoc, Nat.mul_comm (B * B) m1]
  rw [a1, a2, a3]
  omega
theorem halves_le {n0 n1 m0 m1 : Nat} : n0 * m0 ≤ (n0 + n1) * (m0 + m1) ∧ n1 * m1 ≤ (n0 + n1) * (m0 + m1) - n0 * m0 := by
  have : (n0 + n1) * (m0 + m1) = n0 * m0 + n0 * m1 + (n1 * m0 + n1 * m1) := by
    rw [Nat.add_mul, Nat.mul_add, Nat.mul_add]
  omega

/-- how many products of two figures the way of halves takes -/
def eff : Nat → Nat → Nat → Nat → Nat → Nat
  | 0, _, b, n, m => (digits b n).length * (digits b m).length
  | k + 1, l, b, n, m => if min (digits b n).length (digits b m).length ≤ l then (digits b n).length * (digits b m).length else
    let h := (max (digits b n).length (digits b m).length + 1) / 2
    eff k l b (n % b ^ h) (m % b ^ h) + eff k l b (n / b ^ h) (m / b ^ h) + eff k l b (n % b ^ h + n / b ^ h) (m % b ^ h + m / b ^ h)
theorem eff_short {k l b n m : Nat} (h : min (digits b n).length (digits b m).length ≤ l) : eff (k + 1) l b n m = (digits b n).length * (digits b m).length := by
  unfold eff
  rw [if_pos h]
theorem eff_long {k l b n m h : Nat} (hn : ¬ min (digits b n).length (digits b m).length ≤ l) (hh : (max (digits b n).length (digits b m).length + 1) / 2 = h) :
    eff (k + 1) l b n m = eff k l b (n % b ^ h) (m % b ^ h) + eff k l b (n / b ^ h) (m / b ^ h) + eff k l b (n % b ^ h + n / b ^ h) (m % b ^ h + m / b ^ h) := by
  rw [eff, if_neg hn, hh]
theorem digits_len_div {b n : Nat} (hb : 2 ≤ b) (h : 0 < n) : (digits b n).length = (digits b (n / b)).length + 1 := by
  rw [digits_pos hb h]
  rfl
theorem digits_len_pred {b n k : Nat} (hb : 2 ≤ b) (h : (digits b n).length ≤ k) : n < b ^ k := (digits_len_lt hb).mp h
/-- the tops of a division's row and divisor -/
theorem tops_small {b n m : Nat} (hb : 2 ≤ b) (hb6 : b ≤ 1000000) (hm : 0 < m) (hn : n < m * b) : n / b ^ ((digits b m).length - 2) < 1000000000000000000 ∧ m / b ^ ((digits b m).length - 2) < 1000000000000 ∧ b ^ ((digits b m).length - 2) ≤ m := by
  have hl := lt_pow_len hb m
  generalize hk : (digits b m).length = k at *
  have h1 : b ^ k ≤ b ^ (k - 2) * b ^ 2 := by
    rw [← Nat.pow_add]
    exact Nat.pow_le_pow_right (by omega) (by omega)
  have h2 : b ^ 2 ≤ 1000000 ^ 2 := Nat.pow_le_pow_left hb6 2
  have h3 : b ^ (k - 2) * b ^ 2 ≤ b ^ (k - 2) * 1000000000000 := Nat.mul_le_mul_left _ h2
  have hM : m < b ^ (k - 2) * 1000000000000 := by omega
  refine ⟨?_, Nat.div_lt_of_lt_mul hM, ?_⟩
  · refine Nat.div_lt_of_lt_mul (Nat.lt_of_lt_of_le hn ?_)
    refine Nat.le_trans (Nat.mul_le_mul (Nat.le_of_lt hM) hb6) ?_
    rw [Nat.mul_assoc]
    exact Nat.le_refl _
  · have hk1 : 1 ≤ k := by
      rcases Nat.eq_zero_or_pos k with z | z
      · rw [z] at hl
        have : b ^ 0 = 1 := rfl
        omega
      · exact z
    refine Nat.le_trans (Nat.pow_le_pow_right (by omega) (by omega : k - 2 ≤ k - 1)) (pow_le_of_len hb (by omega))
theorem trim_digits_cons {b x L : Nat} (hb : 2 ≤ b) (hx : x < b) : trim ([x] ++ digits b L) = digits b (x + b * L) := by
  have h : AllLt b ([x] ++ digits b L) := (AllLt.one hx).append (digits_lt hb L)
  rw [← digits_val hb h]
  congr 1
  show x + b * val b (digits b L) = _
  rw [val_digits hb]
theorem drop_step {b n i at_ u : Nat} (hb : 2 ≤ b) (hi : i < at_) (hu : ((digits b n).take at_)[at_ - 1 - i]? = some u) : n / b ^ (at_ - (i + 1)) = u + b * (n / b ^ (at_ - i)) := by
  have e1 : at_ - (i + 1) = at_ - 1 - i := by omega
  have e2 : at_ - i = at_ - 1 - i + 1 := by omega
  have e3 : (digits b n)[at_ - 1 - i]? = some u := by
    rw [List.getElem?_take] at hu
    rw [if_pos (by omega)] at hu
    exact hu
  have h1 := val_drop hb (digits_lt hb n) (at_ - 1 - i)
  have h2 := val_drop hb (digits_lt hb n) (at_ - 1 - i + 1)
  rw [val_digits hb] at h1 h2
  obtain ⟨h3, h4⟩ := List.getElem?_eq_some_iff.mp e3
  rw [List.drop_eq_getElem_cons h3, h4] at h1
  rw [e1, e2, ← h1, ← h2]
  rfl
theorem digits_len_other {b c n k : Nat} (hb : 2 ≤ b ∧ b ≤ 1000000) (hc : 2 ≤ c) (h : (digits b n).length ≤ k) : (digits c n).length ≤ 20 * k := by
  refine digits_len_le hc (Nat.lt_of_lt_of_le (digits_len_pred hb.1 h) ?_)
  rw [Nat.pow_mul]
  refine Nat.pow_le_pow_left (Nat.le_trans hb.2 ?_) k
  exact Nat.le_trans (by decide : 1000000 ≤ 2 ^ 20) (Nat.pow_le_pow_left hc 20)
theorem digits_prepend {b n : Nat} (hb : 2 ≤ b) {acc : List Nat} (hab : AllLt b acc) (hne : digits b n ≠ []) : acc ++ digits b n = digits b (val b (acc ++ digits b n)) := by
  have lt := digits_lt hb n
  have ho := List.dropLast_concat_getLast hne
  have hx := digits_last hb ho.symm
  have h3 := digits_val_snoc hb (l := acc ++ (digits b n).dropLast) (y := (digits b n).getLast hne) (hab.append (fun y hy => lt y ((List.dropLast_sublist (digits b n)).subset hy))) (lt _ (List.getLast_mem hne)) hx
  rw [List.append_assoc, ho] at h3
  exact h3.symm

end Fg
set_option Elab.async false
set_option linter.all false
set_option maxRecDepth 100000
/-! the base of all proofs: what is tracked, calls in one word, steps of a reading -/
namespace Fg
open PySem PySem.Spec PyProof.Rows L2

/-! ### what is tracked: the local objects, over the entry's heap -/
structure Trk (H0 H : Hp) (L : List (Addr × HO)) : Prop where
  same : Same H0 H
  new : ∀ p ∈ L, H0 p.1 = none
  nd : (L.map (·.1)).Nodup
  at_ : ∀ p ∈ L, H p.1 = some p.2
section
variable {H0 H H' : Hp} {L : List (Addr × HO)} {p : Addr} {o o' : HO}
theorem Trk.nil (H : Hp) : Trk H H [] := ⟨Same.refl H, fun _ h => (nomatch h), List.nodup_nil, fun _ h => (nomatch h)⟩
theorem Trk.call (T : Trk H0 H L) (s : Same H H') : Trk H0 H' L := ⟨T.same.trans s, T.new, T.nd, fun p hp => s _ _ (T.at_ p hp)⟩
theorem Trk.add (T : Trk H0 H L) (s : Same H H') (hn : H p = none) (h : H' p = some o) : Trk H0 H' ((p, o) :: L) := by
  refine ⟨T.same.trans s, fun q hq => ?_, ?_, fun q hq => ?_⟩
  · rcases List.mem_cons.mp hq with rfl | hq
    · exact T.same.free hn
    · exact T.new q hq
  · rw [List.map_cons]
    refine List.nodup_cons.mpr ⟨fun hm => ?_, T.nd⟩
    obtain ⟨q, hq, e⟩ := List.mem_map.mp hm
    have := T.at_ q hq
    rw [e] at this
    rw [show H p = none from hn] at this
    cases this
  · rcases List.mem_cons.mp hq with rfl | hq
    · exact h
    · exact s _ _ (T.at_ q hq)
theorem same_upd {H : Hp} {p : Addr} {o : HO} (h : H p = none) : Same H (upd H p o) := fun b x e => by
  rw [upd_ne (ne_of_none e h)]
  exact e
theorem Trk.lay (T : Trk H0 H L) (hn : H p = none) : Trk H0 (upd H p o) ((p, o) :: L) := T.add (same_upd hn) hn upd_same
theorem Trk.get (T : Trk H0 H L) {i : Nat} (e : L[i]? = some (p, o)) : H p = some o := T.at_ _ (List.mem_of_getElem? e)
theorem Trk.up (T : Trk H0 H L) (e : H0 p = some o) : H p = some o := T.same _ _ e
theorem Trk.sq {K : PySem.W.Frag} {xs : List V} (T : Trk H0 H L) (e : SqL K H0 p xs) : SqL K H p xs := T.same.seq e
theorem mem_set_ne : ∀ {L : List (Addr × HO)} {i : Nat} {p : Addr} {o o' : HO}, L[i]? = some (p, o) → (L.map (·.1)).Nodup → ∀ q ∈ L.set i (p, o'), (q = (p, o')) ∨ (q ∈ L ∧ q.1 ≠ p)
  | [], i, p, o, o', e, _, q, hq => by simp at e
  | (a, u) :: L, 0, p, o, o', e, nd, q, hq => by
    have e1 : (a, u) = (p, o) := Option.some.inj e
    injection e1 with e1 e2
    rw [List.set_cons_zero] at hq
    rcases List.mem_cons.mp hq with h | h
    · exact Or.inl h
    · refine Or.inr ⟨List.mem_cons_of_mem _ h, fun z => ?_⟩
      rw [List.map_cons] at nd
      refine (List.nodup_cons.mp nd).1 ?_
      show a ∈ _
      rw [e1, ← z]
      exact List.mem_map_of_mem h
  | (a, u) :: L, i + 1, p, o, o', e, nd, q, hq => by
    rw [List.set_cons_succ] at hq
    rw [List.map_cons] at nd
    rw [List.getElem?_cons_succ] at e
    rcases List.mem_cons.mp hq with h | h
    · subst h
      refine Or.inr ⟨List.mem_cons_self, fun z => ?_⟩
      refine (List.nodup_cons.mp nd).1 ?_
      show a ∈ _
      have z' : a = p := z
      rw [z']
      exact List.mem_map.mpr ⟨(p, o), List.mem_of_getElem? e, rfl⟩
    · rcases mem_set_ne e (List.nodup_cons.mp nd).2 q h with h | ⟨h1, h2⟩
      · exact Or.inl h
      · exact Or.inr ⟨List.mem_cons_of_mem _ h1, h2⟩
theorem map_set_fst : ∀ {L : List (Addr × HO)} {i : Nat} {p : Addr} {o o' : HO}, L[i]? = some (p, o) → (L.set i (p, o')).map (·.1) = L.map (·.1)
  | [], i, p, o, o', e => by simp at e
  | (a, u) :: L, 0, p, o, o', e => by
    have e1 : (a, u) = (p, o) := Option.some.inj e
    injection e1 with e1 e2
    rw [List.set_cons_zero, List.map_cons, List.map_cons, e1]
  | (a, u) :: L, i + 1, p, o, o', e => by
    rw [List.getElem?_cons_succ] at e
    rw [List.set_cons_succ, List.map_cons, List.map_cons, map_set_fst e]
/-- the i-th of the tracked objects is changed -/
theorem Trk.mut (T : Trk H0 H L) (i : Nat) (e : L[i]? = some (p, o)) : Trk H0 (upd H p o') (L.set i (p, o')) := by
  have hn : H0 p = none := T.new _ (List.mem_of_getElem? e)
  refine ⟨fun b x q => ?_, fun q hq => ?_, ?_, fun q hq => ?_⟩
  · rw [upd_ne (ne_of_none q hn)]
    exact T.same b x q
  · rcases mem_set_ne e T.nd q hq with h | ⟨h1, _⟩
    · rw [h]
      exact hn
    · exact T.new q h1
  · rw [map_set_fst e]
    exact T.nd
  · rcases mem_set_ne e T.nd q hq with h | ⟨h1, h2⟩
    · rw [h]
      exact upd_same
    · rw [upd_ne h2]
      exact T.at_ q h1
/-- forgetting -/
theorem Trk.drop (T : Trk H0 H L) (k : Nat) : Trk H0 H (L.drop k) := ⟨T.same, fun p hp => T.new p (List.mem_of_mem_drop hp), by
  rw [List.map_drop]
  exact List.Nodup.sublist (List.drop_sublist _ _) T.nd, fun p hp => T.at_ p (List.mem_of_mem_drop hp)⟩
theorem Trk.fresh (T : Trk H0 H L) {i : Nat} (e : L[i]? = some (p, o)) : H0 p = none := T.new _ (List.mem_of_getElem? e)
end

/-! ### promises -/
def RetL (xs : List V) (H : Hp) (Q : VK) : Prop := ∀ p H', H p = none → Same H H' → H' p = some (.lst xs) → Q (.ref p) H'
def RetV (v : V) (H : Hp) (Q : VK) : Prop := ∀ H', Same H H' → Q v H'
/-- a pair of a new list and a value; a pair of two new lists -/
def RetP (xs : List V) (v : V) (H : Hp) (Q : VK) : Prop := ∀ t p H', H t = none → H p = none → t ≠ p → Same H H' → H' p = some (.lst xs) → H' t = some (.tup [.ref p, v]) → Q (.ref t) H'
def RetPP (xs ys : List V) (H : Hp) (Q : VK) : Prop := ∀ t p q H', H t = none → H p = none → H q = none → t ≠ p → t ≠ q → p ≠ q → Same H H' → H' p = some (.lst xs) → H' q = some (.lst ys) → H' t = some (.tup [.ref p, .ref q]) → Q (.ref t) H'
section
variable {H0 H H' : Hp} {L : List (Addr × HO)} {p : Addr} {o : HO} {xs : List V} {v : V} {Q : VK}
theorem RetL.go (k : RetL xs H0 Q) (T : Trk H0 H L) (i : Nat) (e : L[i]? = some (p, .lst xs)) : Q (.ref p) H := k p H (T.fresh e) T.same (T.get e)
theorem RetV.go (k : RetV v H0 Q) (T : Trk H0 H L) : Q v H := k H T.same
end

/-! ### a def that is called by its name -/
def Cal (P : Program) (w : World) (K : PySem.W.Frag) (mg : Str → Option Value) (base : Heap) (CX : CXT) (x : Str) (k : Nat) (ps : List Str) (sp : Sp) : Prop :=
  ∃ f fd, FnOk P w K mg base CX k f fd ps sp ∧ mg x = some (.ref f) ∧ PySem.W.keepIn K (.ref f) = true ∧ Binds K fd ps []
section
variable {X : Cx} {CX : CXT} {x : Str} {j k : Nat} {ps : List Str} {sp : Sp} {E : XK} {p pos : Pos} {e : Expr} {es : List Expr} {t : TA}
theorem pcX (C : Cal X.prog X.w X.K X.mg X.base CX x j ps sp) (hr : Room k X.A) (hx : Passes CX X E) (ha : PA X (e :: es) t) (hk : j ≤ k := by omega) (hg : Gl X x := by rfl) (hdb : (x == ("__debug__" : Str)) = false := by decide)
    (he : starEach (e :: es) X.env = (false, eval e X.env) :: starEach es X.env := by rfl) (hpl : (backTo pos (starEach es X.env)).any (·.1) = false := by rfl) : PE X (.Call (.Name x p) (e :: es) [] pos) (tCall sp [] E t) := by
  obtain ⟨f, fd, F, hm, kp, b⟩ := C
  exact pe_call F (hr.mono hk) hg hm kp b .nil hx ha hdb he hpl
theorem pc (C : Cal X.prog X.w X.K X.mg X.base CX0 x j ps sp) (hr : Room k X.A) (ha : PA X (e :: es) t) (hk : j ≤ k := by omega) (hg : Gl X x := by rfl) (hdb : (x == ("__debug__" : Str)) = false := by decide)
    (he : starEach (e :: es) X.env = (false, eval e X.env) :: starEach es X.env := by rfl) (hpl : (backTo pos (starEach es X.env)).any (·.1) = false := by rfl) : PE X (.Call (.Name x p) (e :: es) [] pos) (tCall sp [] E0 t) := pcX C hr pass0 ha hk hg hdb he hpl
end

/-! ### steps of a reading -/
section
variable {K : PySem.W.Frag} {X : Cx} {σ : L2.St} {H : Hp} {D : Ends} {t u : TS} {ta tb te tc : TE} {tt tw : TT} {r : R2} {Q : VK} {v x y : V} {p q : Addr} {xs ys : List V}
theorem x_seq (h : t { D with nx := u D } σ H) : tSeq t u D σ H := h
theorem x_asg {g : TG} (h : te σ H fun x H1 => g x σ H1 D.nx) : tAsg te g D σ H := h
theorem x_name {i : Nat} {R : L2.St → Hp → Prop} (h : R (σ.set i (some v)) H) : gName i v σ H R := h
theorem x_ret (h : te σ H D.rt) : tRet te D σ H := h
theorem x_drop (h : te σ H fun _ H1 => D.nx σ H1) : tDrop te D σ H := h
theorem x_next (h : D.nx σ H) : tNext D σ H := h
theorem x_if (h : tt σ H fun b H1 => if b = true then t D σ H1 else u D σ H1) : tIfS tt t u D σ H := h
theorem x_var {i : Nat} (e : σ[i]? = some (some v)) (h : Q v H) : tVar i σ H Q := ⟨v, e, h⟩
theorem x_c (h : Q v H) : tC v σ H Q := h
theorem x_op (h : ta σ H fun x H1 => tb σ H1 fun y H2 => r x y H2 Q) : tOp r ta tb σ H Q := h
theorem x_un {r : V → Hp → VK → Prop} (h : ta σ H fun x H1 => r x H1 Q) : tUn r ta σ H Q := h
theorem x_I0 {g : Int → Int → V} {i j : Int} (h : Q (g i j) H) : rI0 g (.int i) (.int j) H Q := ⟨i, j, rfl, rfl, h⟩
theorem x_I {C : Int → Int → Prop} {g : Int → Int → V} {i j : Int} (c : C i j) (h : Q (g i j) H) : rI C g (.int i) (.int j) H Q := ⟨i, j, rfl, rfl, c, h⟩
theorem x_U {g : Int → V} {i : Int} (h : Q (g i) H) : rU g (.int i) H Q := ⟨i, rfl, h⟩
theorem x_eqI {i j : Int} (h : Q (.bl (decide (i = j))) H) : rEq (.int i) (.int j) H Q := ⟨rfl, by
  have e : decide (V.int i = V.int j) = decide (i = j) := by rw [dec_int, Bool.beq_eq_decide_eq]
  rw [e]; exact h⟩
theorem x_neI {i j : Int} (h : Q (.bl (!decide (i = j))) H) : rNe (.int i) (.int j) H Q := ⟨rfl, by
  have e : decide (V.int i = V.int j) = decide (i = j) := by rw [dec_int, Bool.beq_eq_decide_eq]
  rw [e]; exact h⟩
theorem x_nil {R : List V → Hp → Prop} (h : R [] H) : tNil σ H R := h
theorem x_cons {tr : TA} {R : List V → Hp → Prop} (h : ta σ H fun x H1 => tr σ H1 fun xs H2 => R (x :: xs) H2) : tCons ta tr σ H R := h
theorem x_call {sp : Sp} {E : XK} {tr : TA} (h : tr σ H fun vs H1 => sp (vs ++ []) H1 Q E) : tCall sp [] E tr σ H Q := h
theorem x_cb {r : List V → Hp → VK → Prop} {tr : TA} (h : tr σ H fun vs H1 => r vs H1 Q) : tCB r tr σ H Q := h
theorem x_test {R : Bool → Hp → Prop} (h : te σ H fun x H1 => ∃ k, x = .bl k ∧ R k H1) : tTest te σ H R := h
theorem x_B {R : Bool → Hp → Prop} (h : te σ H fun x H1 => ∃ k, x = .bl k ∧ R k H1) : tB te σ H R := h
theorem x_bl {b : Bool} {R : Bool → Prop} (h : R b) : ∃ k, V.bl b = .bl k ∧ R k := ⟨b, rfl, h⟩
theorem x_not {R : Bool → Hp → Prop} (h : tt σ H fun c H1 => R (!c) H1) : tNot tt σ H R := h
theorem x_and {R : Bool → Hp → Prop} (h : tt σ H fun c H1 => if c = true then tw σ H1 R else R false H1) : tAnd tt tw σ H R := h
theorem x_or {R : Bool → Hp → Prop} (h : tt σ H fun c H1 => if c = true then R true H1 else tw σ H1 R) : tOr tt tw σ H R := h
theorem x_andV (h : ta σ H fun x H1 => ∃ c, x = .bl c ∧ if c = true then tb σ H1 Q else Q (.bl false) H1) : tAndV ta tb σ H Q := h
theorem x_orV (h : ta σ H fun x H1 => ∃ c, x = .bl c ∧ if c = true then Q (.bl true) H1 else tb σ H1 Q) : tOrV ta tb σ H Q := h
theorem x_notV (h : ta σ H fun x H1 => ∃ c, x = .bl c ∧ Q (.bl (!c)) H1) : tNotV ta σ H Q := h
theorem x_ifE (h : tt σ H fun c H1 => if c = true then ta σ H1 Q else tb σ H1 Q) : tIf tt ta tb σ H Q := h
theorem x_chain {r' : R2} (h : ta σ H fun x H1 => tb σ H1 fun y H2 => r x y H2 fun z H3 => ∃ k, z = .bl k ∧ (if k = true then tc σ H3 fun w' H4 => r' y w' H4 Q else Q (.bl false) H3)) : tChain r r' ta tb tc σ H Q := h
theorem x_aug {i : Nat} {ti : TIp} (e : σ[i]? = some (some v)) (h : te σ H fun y H1 => ti v y H1 fun z H2 => D.nx (σ.set i (some z)) H2) : tAug i te ti D σ H := ⟨v, e, h⟩
/-- len, max, min -/
def rLen1 (K : PySem.W.Frag) : List V → Hp → VK → Prop := fun xs H Q => ∃ p ys, xs = [.ref p] ∧ (SqL K H p ys ∨ SqT K H p ys) ∧ Q (.int ys.length) H
theorem call_len1 : CallR X (.builtin "len") (rLen1 X.K) := call_len_seq
theorem x_len (h : H p = some (.lst xs)) (q : Q (.int xs.length) H) : rLen1 K [.ref p] H Q := ⟨p, xs, rfl, .inl (SqL.of h), q⟩
theorem x_lenS (h : SqL K H p xs) (q : Q (.int xs.length) H) : rLen1 K [.ref p] H Q := ⟨p, xs, rfl, .inl h, q⟩
theorem x_lenT (h : H p = some (.tup xs)) (q : Q (.int xs.length) H) : rLen1 K [.ref p] H Q := ⟨p, xs, rfl, .inr (SqT.of h), q⟩
def rMax2 : List V → Hp → VK → Prop := fun xs H Q => ∃ i j, xs = [.int i, .int j] ∧ Q (.int (if j > i then j else i)) H
def rMin2 : List V → Hp → VK → Prop := fun xs H Q => ∃ i j, xs = [.int i, .int j] ∧ Q (.int (if j < i then j else i)) H
theorem call_max2' (hc : X.calm = true) : CallR X (.builtin "max") rMax2 := call_max2 hc
theorem call_min2' (hc : X.calm = true) : CallR X (.builtin "min") rMin2 := call_min2 hc
theorem x_max {i j : Int} (q : Q (.int (max i j)) H) : rMax2 [.int i, .int j] H Q := ⟨i, j, rfl, by
  have e : (if j > i then j else i) = max i j := by split <;> omega
  rw [e]; exact q⟩
theorem x_min {i j : Int} (q : Q (.int (min i j)) H) : rMin2 [.int i, .int j] H Q := ⟨i, j, rfl, by
  have e : (if j < i then j else i) = min i j := by split <;> omega
  rw [e]; exact q⟩
/-- items, slices -/
theorem x_ix {i : Int} (h : H p = some (.lst xs)) (e : atI xs i = some v) (q : Q v H) : rIxL K (.ref p) (.int i) H Q := ⟨p, xs, i, v, rfl, rfl, SqL.of h, e, q⟩
theorem x_ixS {i : Int} (h : SqL K H p xs) (e : atI xs i = some v) (q : Q v H) : rIxL K (.ref p) (.int i) H Q := ⟨p, xs, i, v, rfl, rfl, h, e, q⟩
theorem x_ixT {i : Int} (h : H p = some (.tup xs)) (e : atI xs i = some v) (q : Q v H) : rIxT K (.ref p) (.int i) H Q := ⟨p, xs, i, v, rfl, rfl, SqT.of h, e, q⟩
theorem x_sl {r : V → Option Int → Option Int → Hp → VK → Prop} {tl th : TO} (h : te σ H fun x H1 => tl σ H1 fun l H2 => th σ H2 fun u H3 => r x l u H3 Q) : tSl r te tl th σ H Q := h
theorem x_po0 {R : Option Int → Hp → Prop} (h : R none H) : tNoPart σ H R := h
theorem x_po1 {R : Option Int → Hp → Prop} (h : te σ H fun x H1 => ∃ i, x = .int i ∧ R (some i) H1) : tPart te σ H R := h
theorem x_part {i : Int} {R : Int → Prop} (h : R i) : ∃ j, V.int i = .int j ∧ R j := ⟨i, rfl, h⟩
theorem x_cut {lo hi : Option Int} (h : H p = some (.lst xs)) (q : ∀ d, H d = none → Q (.ref d) (upd H d (.lst (cutV xs lo hi)))) : rSlL K (.ref p) lo hi H Q := ⟨p, xs, rfl, SqL.of h, q⟩
theorem x_revL (h : te σ H fun x H1 => ∃ a xs, x = .ref a ∧ SqL K H1 a xs ∧ ∀ d, H1 d = none → Q (.ref d) (upd H1 d (.lst xs.reverse))) : tRevL K te σ H Q := h
theorem x_rev {R : Addr → List V → Prop} (h : H p = some (.lst xs)) (q : R p xs) : ∃ a ys, V.ref p = .ref a ∧ SqL K H a ys ∧ R a ys := ⟨p, xs, rfl, SqL.of h, q⟩
/-- lists made -/
abbrev rNewL (xs : List V) (H : Hp) (Q : VK) : Prop := xs.length ≤ sizeLine ∧ ∀ d, H d = none → Q (.ref d) (upd H d (.lst xs))
abbrev rNewT (xs : List V) (H : Hp) (Q : VK) : Prop := xs.length ≤ sizeLine ∧ ∀ d, H d = none → Q (.ref d) (upd H d (.tup xs))
theorem x_lst {tr : TA} (h : tr σ H fun xs H1 => rNewL xs H1 Q) : tLst tr σ H Q := h
theorem x_tup {tr : TA} (h : tr σ H fun xs H1 => rNewT xs H1 Q) : tTup tr σ H Q := h
theorem x_cat (h1 : H p = some (.lst xs)) (h2 : H q = some (.lst ys)) (hz : xs.length + ys.length ≤ 100000) (k : ∀ d, H d = none → Q (.ref d) (upd H d (.lst (xs ++ ys)))) : rCat (.ref p) (.ref q) H Q :=
  ⟨p, q, xs, ys, rfl, rfl, h1, h2, Nat.le_trans hz (by decide), k⟩
def rList1 (K : PySem.W.Frag) : List V → Hp → VK → Prop := fun xs H Q => ∃ p ys, xs = [.ref p] ∧ (SqL K H p ys ∨ SqT K H p ys) ∧ ∀ l, H l = none → Q (.ref l) (upd H l (.lst ys))
theorem call_list1 : CallR X (.type "list") (rList1 X.K) := call_list_of
theorem x_list (h : H p = some (.lst xs)) (k : ∀ d, H d = none → Q (.ref d) (upd H d (.lst xs))) : rList1 K [.ref p] H Q := ⟨p, xs, rfl, .inl (SqL.of h), k⟩
theorem x_bm {T : String} {r : V → List V → Hp → VK → Prop} {tr : TA} (h : te σ H fun x H1 => tyV K T x H1 ∧ tr σ H1 fun xs H2 => r x xs H2 Q) : tBM K T r te tr σ H Q := h
theorem x_tyL {A : Prop} (h : H p = some (.lst xs)) (k : A) : tyV K "list" (.ref p) H ∧ A := ⟨.inl ⟨rfl, xs, SqL.of h⟩, k⟩
theorem x_app (h : H p = some (.lst xs)) (hz : xs.length < 100000) (k : Q .non (upd H p (.lst (xs ++ [v])))) : rAppend (.ref p) [v] H Q := ⟨p, xs, v, rfl, rfl, h, Nat.lt_of_lt_of_le hz (by decide), k⟩
theorem ifT {A B : Prop} {c : Bool} (hc : c = true) (h : A) : if c = true then A else B := by
  rw [hc]; exact iteT h
theorem ifF {A B : Prop} {c : Bool} (hc : c = false) (h : B) : if c = true then A else B := by
  rw [hc]; exact iteF h
theorem if2 {A B : Prop} {c : Bool} (h1 : c = true → A) (h2 : c = false → B) : if c = true then A else B := by
  cases c with
  | true => exact iteT (h1 rfl)
  | false => exact iteF (h2 rfl)
end
theorem ifnT {A B : Prop} (h : B) : if (!true) = true then A else B := iteF h
theorem ifnF {A B : Prop} (h : A) : if (!false) = true then A else B := iteT h
/-! ### rows as values -/
def iv (l : List Nat) : List V := l.map fun (n : Nat) => V.int (n : Int)
theorem iv_length (l : List Nat) : (iv l).length = l.length := List.length_map _
theorem iv_get {l : List Nat} {i x : Nat} (h : l[i]? = some x) : (iv l)[i]? = some (.int (x : Int)) := by
  unfold iv
  rw [List.getElem?_map, h]
  rfl
theorem iv_snoc (l : List Nat) (x : Nat) : iv (l ++ [x]) = iv l ++ [.int (x : Int)] := by
  unfold iv
  rw [List.map_append]
  rfl
theorem iv_append (l m : List Nat) : iv (l ++ m) = iv l ++ iv m := by
  unfold iv
  rw [List.map_append]
theorem iv_inj {l m : List Nat} (h : iv l = iv m) : l = m := by
  unfold iv at h
  refine List.map_inj_right (fun a b e => ?_) |>.mp h
  injection e with e
  omega
theorem iv_nil_iff {l : List Nat} : iv l = [] ↔ l = [] := by
  unfold iv
  exact List.map_eq_nil_iff
def dig (b n : Nat) : List V := iv (digits b n)
theorem nat_mod_cast (x b : Nat) : ((x : Int) % (b : Int)) = ((x % b : Nat) : Int) := (Int.natCast_emod x b).symm
theorem nat_div_cast (x b : Nat) : ((x : Int) / (b : Int)) = ((x / b : Nat) : Int) := (Int.natCast_ediv x b).symm
theorem cut_to (xs : List V) (k : Nat) : cutV xs none (some (k : Int)) = xs.take k := by
  unfold cutV
  rw [HT.sIx_none, HT.sIx_nat, Nat.sub_zero, List.drop_zero]
  rcases Nat.le_total k xs.length with h | h
  · rw [Nat.min_eq_left h]
  · rw [Nat.min_eq_right h, List.take_of_length_le (Nat.le_refl _), List.take_of_length_le h]
theorem cut_from (xs : List V) (k : Nat) : cutV xs (some (k : Int)) none = xs.drop k := by
  unfold cutV
  rw [HT.sIx_none, HT.sIx_nat]
  rcases Nat.le_total k xs.length with h | h
  · rw [Nat.min_eq_left h, List.take_of_length_le (by rw [List.length_drop]; omega)]
  · rw [Nat.min_eq_right h, List.drop_eq_nil_of_le (Nat.le_refl _), List.drop_eq_nil_of_le h, List.take_nil]
theorem iv_take (l : List Nat) (k : Nat) : iv (l.take k) = (iv l).take k := List.map_take
theorem iv_drop (l : List Nat) (k : Nat) : iv (l.drop k) = (iv l).drop k := List.map_drop
theorem iv_reverse (l : List Nat) : iv l.reverse = (iv l).reverse := List.map_reverse
theorem trim_take_of {l : List Nat} {k : Nat} (hk : k < l.length) (h0 : l[k]? = some 0) (e : trim (l.take (k + 1)) = trim l) : trim (l.take k) = trim l := by
  rw [List.take_succ_eq_append_getElem hk] at e
  rw [List.getElem?_eq_getElem hk] at h0
  rw [Option.some.inj h0, trim_snoc_zero] at e
  exact e
theorem trim_take_end {l : List Nat} {k x : Nat} (hk : k < l.length) (h0 : l[k]? = some x) (hx : x ≠ 0) (e : trim (l.take (k + 1)) = trim l) : l.take (k + 1) = trim l := by
  rw [← e, List.take_succ_eq_append_getElem hk]
  rw [List.getElem?_eq_getElem hk] at h0
  rw [Option.some.inj h0, trim_snoc_pos hx]
theorem iv_at {l : List Nat} {i : Nat} {v : V} (h : (iv l)[i]? = some v) : ∃ x, l[i]? = some x ∧ v = .int (x : Int) := by
  unfold iv at h
  rw [List.getElem?_map] at h
  cases e : l[i]? with
  | none =>
    rw [e] at h
    cases h
  | some x =>
    rw [e] at h
    exact ⟨x, rfl, (Option.some.inj h).symm⟩
/-! ### a def of the text -/
def Dfn (K : PySem.W.Frag) (mg : Str → Option Value) (x : Str) (st : Stmt) : Prop := ∃ f fd, FunD K x x (defArgs st) (defBody st) (defScope st) [] [] f fd ∧ mg x = some (.ref f)
section
variable {P : Program} {w : World} {K : PySem.W.Frag} {mg : Str → Option Value} {base : Heap} {x : Str} {st : Stmt} {N ps : List Str} {k : Nat} {sp : Sp}
/-- THE RULE for a def that raises nothing -/
theorem cal0 (D : Dfn K mg x st) (S : FnScope N ps (defScope st))
    (hb : ∀ (kV doc pm : Value) (an : Option Addr) (cdv ct : Value) (us : List Value), us.length = ps.length → bindArgs (PySem.W.fnOf x x (defArgs st) (defBody st) (defScope st) .none kV doc pm an cdv ct) ⟨us, []⟩ = pure (ps.zip us))
    (len : ∀ vs H Q E, sp vs H Q E → vs.length = ps.length)
    (hbody : ∀ (f : Addr) (cdv : Value) (A : Around) (outer : List Env) (s : Shared) (H : Hp) (vs : List V) (Q : VK) (E : XK), Room k (A.deeper (envOfC x (defScope st) s.heap.objs.size f cdv)) → sp vs H Q E →
      ∃ t, PSs (cxOf CX0 P w K mg base N x (defScope st) f cdv A outer s H E).nox (defBody st) t ∧ t { nx := fun _ H' => Q .non H', rt := Q } (start N vs) H) : Cal P w K mg base CX0 x (k + 1) ps sp := by
  obtain ⟨f, fd, F, hm⟩ := D
  refine ⟨f, fd, F.ok S len fun cdv A outer s H vs Q E hr h => ?_, hm, F.kp, F.bindsN hb⟩
  obtain ⟨t, h1, h2⟩ := hbody f cdv A outer s H vs Q E hr h
  exact ⟨t, h1.nox, h2⟩
/-- .. that may raise -/
theorem calX (D : Dfn K mg x st) (S : FnScope N ps (defScope st))
    (hb : ∀ (kV doc pm : Value) (an : Option Addr) (cdv ct : Value) (us : List Value), us.length = ps.length → bindArgs (PySem.W.fnOf x x (defArgs st) (defBody st) (defScope st) .none kV doc pm an cdv ct) ⟨us, []⟩ = pure (ps.zip us))
    (len : ∀ vs H Q E, sp vs H Q E → vs.length = ps.length)
    (hbody : ∀ (f : Addr) (cdv : Value) (A : Around) (outer : List Env) (s : Shared) (H : Hp) (vs : List V) (Q : VK) (E : XK), Room k (A.deeper (envOfC x (defScope st) s.heap.objs.size f cdv)) → sp vs H Q E →
      ∃ t, PSs (cxOf (L2.CX P w) P w K mg base N x (defScope st) f cdv A outer s H E) (defBody st) t ∧ t { nx := fun _ H' => Q .non H', rt := Q } (start N vs) H) : Cal P w K mg base (L2.CX P w) x (k + 1) ps sp := by
  obtain ⟨f, fd, F, hm⟩ := D
  exact ⟨f, fd, F.ok S len fun cdv A outer s H vs Q E hr h => hbody f cdv A outer s H vs Q E hr h, hm, F.kp, F.bindsN hb⟩
end
/-! ### loops -/
section
variable {K : PySem.W.Frag} {σ : L2.St} {H : Hp} {D : Ends} {t : TS} {tt : TT} {p : Addr} {xs : List V}
theorem x_for {wi : TI} {g : TG} {tb : TS} (h : wi σ H fun J H1 => ∃ W : Nat → Nat → L2.St → Hp → Prop, (∃ m, W 0 m σ H1) ∧ ∀ i m σ H, W i m σ H →
  (J.stop i H ∧ D.nx σ H) ∨ (J.go i H ∧ ∃ N : L2.St → Hp → Prop, (∀ σ' H', N σ' H' → ∃ m', m' < m ∧ W (i + 1) m' σ' H') ∧ ∀ x H', J.yld i H x H' → g x σ H' fun σ2 H2 => tb { D with nx := N, ct := N, bk := D.nx } σ2 H2)) : tFor wi g tb D σ H := h
theorem x_iList {tl : TE} {R : It → Hp → Prop} (h : tl σ H fun x H1 => ∃ a, x = .ref a ∧ (∃ xs, SqL K H1 a xs) ∧ R (Itl K a) H1) : iList K tl σ H R := h
theorem x_il {R : Addr → Prop} (h : H p = some (.lst xs)) (k : R p) : ∃ a, V.ref p = .ref a ∧ (∃ xs, SqL K H a xs) ∧ R a := ⟨p, rfl, ⟨xs, SqL.of h⟩, k⟩
theorem x_iRev {ta : TA} {R : It → Hp → Prop} (h : ta σ H fun vs H1 => ∃ (a : Addr) (xs : List V), vs = [.ref a] ∧ SqL K H1 a xs ∧ R (Itv K a xs.length) H1) : iRev K ta σ H R := h
theorem x_rv {R : Addr → List V → Prop} (h : H p = some (.lst xs)) (k : R p xs) : ∃ (a : Addr) (ys : List V), [V.ref p] = [.ref a] ∧ SqL K H a ys ∧ R a ys := ⟨p, xs, rfl, SqL.of h, k⟩
theorem x_iR1 {ta : TA} {R : It → Hp → Prop} (h : ta σ H fun vs H1 => ∃ j : Int, vs = [.int j] ∧ -(2 ^ 62) ≤ j ∧ j < 2 ^ 62 ∧ R (Itr 0 j.toNat) H1) : iRng1 ta σ H R := h
theorem x_r1 {j : Int} {R : Int → Prop} (h : -100000000 ≤ j ∧ j ≤ 100000000) (k : R j) : ∃ i : Int, [V.int j] = [.int i] ∧ -(2 ^ 62) ≤ i ∧ i < 2 ^ 62 ∧ R i := ⟨j, rfl, by omega, by omega, k⟩
theorem x_iR3 {ta : TA} {R : It → Hp → Prop} (h : ta σ H fun vs H1 => ∃ (i j c : Int) (n : Nat), vs = [.int i, .int j, .int c] ∧ RgC i j c n ∧ R (Itc i c n) H1) : iRng3 ta σ H R := h
theorem x_rdown {i : Int} {R : Int → Int → Nat → Prop} (h : -1 ≤ i ∧ i ≤ 100000000) (k : R i (-1) (i + 1).toNat) : ∃ (a j c : Int) (n : Nat), [V.int i, V.int (-1), V.int (-1)] = [.int a, .int j, .int c] ∧ RgC a j c n ∧ R a c n :=
  ⟨i, -1, -1, _, rfl, RgC.neg (by omega) (by omega) (by decide) (by decide), by
    have e : i - -1 = i + 1 := by omega
    rw [e]; exact k⟩
theorem x_while (W : Nat → L2.St → Hp → Prop) (m : Nat) (h0 : W m σ H) (hs : ∀ m σ H, W m σ H →
  tt σ H fun b H1 => if b = true then ∃ N : L2.St → Hp → Prop, (∀ σ' H', N σ' H' → ∃ m', m' < m ∧ W m' σ' H') ∧ t { D with nx := N, ct := N, bk := D.nx } σ H1 else D.nx σ H1) : tWhile tt t D σ H := ⟨W, ⟨m, h0⟩, hs⟩
theorem x_turn {W : Nat → L2.St → Hp → Prop} {m : Nat} (h : t { D with nx := fun σ2 H2 => ∃ m', m' < m ∧ W m' σ2 H2, ct := fun σ2 H2 => ∃ m', m' < m ∧ W m' σ2 H2, bk := D.nx } σ H) :
  ∃ N : L2.St → Hp → Prop, (∀ σ' H', N σ' H' → ∃ m', m' < m ∧ W m' σ' H') ∧ t { D with nx := N, ct := N, bk := D.nx } σ H := ⟨_, fun _ _ h => h, h⟩
theorem x_iEn {ta : TA} {R : It → Hp → Prop} (h : ta σ H fun vs H1 => ∃ a xs, vs = [.ref a] ∧ SqL K H1 a xs ∧ R (Ite K a) H1) : iEnum K ta σ H R := h
theorem x_en {R : Addr → Prop} (h : H p = some (.lst xs)) (k : R p) : ∃ a ys, [V.ref p] = [.ref a] ∧ SqL K H a ys ∧ R a := ⟨p, xs, rfl, SqL.of h, k⟩
end
/-! ### kinds of values: the whole numbers among all -/
inductive Kd (H : Hp) : V → Option Int → Prop where
  | int (i : Int) : Kd H (.int i) (some i)
  | bl (b : Bool) : Kd H (.bl b) none
  | str (x : Str) : Kd H (.str x) none
  | non : Kd H .non none
  | lst {a : Addr} {xs : List V} (e : H a = some (.lst xs)) : Kd H (.ref a) none
  | tup {a : Addr} {xs : List V} (e : H a = some (.tup xs)) : Kd H (.ref a) none
  | dK {a : Addr} {kvs : List (Key × V)} (e : H a = some (.dK kvs)) : Kd H (.ref a) none
theorem Kd.mono {H H' : Hp} {x : V} {o : Option Int} (k : Kd H x o) (s : Same H H') : Kd H' x o := by
  cases k with
  | int i => exact .int i
  | bl b => exact .bl b
  | str x => exact .str x
  | non => exact .non
  | lst e => exact .lst (s _ _ e)
  | tup e => exact .tup (s _ _ e)
  | dK e => exact .dK (s _ _ e)
/-- its type, and what isinstance says of int and of bool -/
theorem Kd.ty {K : PySem.W.Frag} {H : Hp} {x : V} {o : Option Int} (k : Kd H x o) : ∃ t, TyX K H x (.type t) ∧ ((o.isSome = true ∧ kitB t "int" = some true ∧ kitB t "bool" = some false) ∨ (o.isSome = false ∧ kitB t "int" = some false) ∨ (o.isSome = false ∧ kitB t "int" = some true ∧ kitB t "bool" = some true)) := by
  cases k with
  | int i => exact ⟨"int", .base (.int i), .inl ⟨rfl, by decide +kernel, by decide +kernel⟩⟩
  | bl b => exact ⟨"bool", .base (.bl b), .inr (.inr ⟨rfl, by decide +kernel, by decide +kernel⟩)⟩
  | str x => exact ⟨"str", .base (.str x), .inr (.inl ⟨rfl, by decide +kernel⟩)⟩
  | non => exact ⟨"NoneType", .base .non, .inr (.inl ⟨rfl, by decide +kernel⟩)⟩
  | lst e => exact ⟨"list", .base (.lst e), .inr (.inl ⟨rfl, by decide +kernel⟩)⟩
  | tup e => exact ⟨"tuple", .base (.tup e), .inr (.inl ⟨rfl, by decide +kernel⟩)⟩
  | dK e => exact ⟨"dict", .base (.dK e), .inr (.inl ⟨rfl, by decide +kernel⟩)⟩
/-- no list -/
inductive NoL (H : Hp) : V → Prop where
  | int (i : Int) : NoL H (.int i)
  | bl (b : Bool) : NoL H (.bl b)
  | str (x : Str) : NoL H (.str x)
  | non : NoL H .non
  | tup {a : Addr} {xs : List V} (e : H a = some (.tup xs)) : NoL H (.ref a)
  | dK {a : Addr} {kvs : List (Key × V)} (e : H a = some (.dK kvs)) : NoL H (.ref a)
theorem NoL.mono {H H' : Hp} {x : V} (k : NoL H x) (s : Same H H') : NoL H' x := by
  cases k with
  | int i => exact .int i
  | bl b => exact .bl b
  | str x => exact .str x
  | non => exact .non
  | tup e => exact .tup (s _ _ e)
  | dK e => exact .dK (s _ _ e)
theorem NoL.ty {K : PySem.W.Frag} {H : Hp} {x : V} (k : NoL H x) : ∃ t, TyX K H x (.type t) ∧ kitB t "list" = some false := by
  cases k with
  | int i => exact ⟨"int", .base (.int i), by decide +kernel⟩
  | bl b => exact ⟨"bool", .base (.bl b), by decide +kernel⟩
  | str x => exact ⟨"str", .base (.str x), by decide +kernel⟩
  | non => exact ⟨"NoneType", .base .non, by decide +kernel⟩
  | tup e => exact ⟨"tuple", .base (.tup e), by decide +kernel⟩
  | dK e => exact ⟨"dict", .base (.dK e), by decide +kernel⟩
theorem x_isi {K : PySem.W.Frag} {H : Hp} {Q : VK} {x : V} {t n : String} {b : Bool} (ty : TyX K H x (.type t)) (kb : kitB t n = some b) (k : Q (.bl b) H) : rIsi K [x, .ty n] H Q := ⟨x, .ty n, _, _, b, rfl, .ty n, ty, kit_ty kb, k⟩
theorem x_isiL {K : PySem.W.Frag} {H : Hp} {Q : VK} {p : Addr} {xs : List V} (h : H p = some (.lst xs)) (k : Q (.bl true) H) : rIsi K [.ref p, .ty "list"] H Q := x_isi (.base (.lst h)) (by decide +kernel) k
theorem x_isiT {K : PySem.W.Frag} {H : Hp} {Q : VK} {p : Addr} {xs : List V} (h : H p = some (.tup xs)) (k : Q (.bl true) H) : rIsi K [.ref p, .ty "tuple"] H Q := x_isi (.base (.tup h)) (by decide +kernel) k
theorem x_isiI {K : PySem.W.Frag} {H : Hp} {Q : VK} {i : Int} (k : Q (.bl true) H) : rIsi K [.int i, .ty "int"] H Q := x_isi (.base (.int i)) (by decide +kernel) k

/-! ### == of lists of numbers -/
def pdI (l : List Nat) : PyData := .list (l.map fun (n : Nat) => PyData.int (n : Int))
section
variable {K : PySem.W.Frag} {H : Hp} {Q : VK} {p q : Addr} {l m : List Nat}
theorem dpAll_iv : ∀ l : List Nat, DpAll K H (iv l) (l.map fun (n : Nat) => PyData.int (n : Int))
  | [] => .nil
  | x :: l => .cons (.int _) (dpAll_iv l)
theorem dp_iv (h : H p = some (.lst (iv l))) : Dp K H (.ref p) (pdI l) := .lst (SqL.of h) (dpAll_iv l)
theorem canLay_ints : ∀ l : List Nat, PyData.canLayAll0 (l.map fun (n : Nat) => PyData.int (n : Int)) = true
  | [] => rfl
  | x :: l => by
    show (PyData.canLay0 (.int _) && PyData.canLayAll0 (l.map _)) = true
    rw [canLay_ints l]
    rfl
theorem depth_ints : ∀ l : List Nat, PyData.depthAll (l.map fun (n : Nat) => PyData.int (n : Int)) = 0
  | [] => rfl
  | x :: l => by
    show max (PyData.depth (.int _)) (PyData.depthAll (l.map _)) = 0
    rw [depth_ints l]
    rfl
theorem canLay_pdI (l : List Nat) : (pdI l).canLay0 = true := by
  show PyData.canLayAll0 _ = true
  exact canLay_ints l
theorem depth_pdI (l : List Nat) : (pdI l).depth = 1 := by
  show PyData.depthAll _ + 1 = 1
  rw [depth_ints]
theorem shaped_pdI (l : List Nat) : SeqAt.shaped (pdI l) = true := by
  unfold SeqAt.shaped
  rw [canLay_pdI, depth_pdI]
  rfl
theorem eqv_ints : ∀ l m : List Nat, PyData.eqvAll (l.map fun (n : Nat) => PyData.int (n : Int)) (m.map fun (n : Nat) => PyData.int (n : Int)) = decide (l = m)
  | [], [] => by
    rw [decide_eq_true rfl]
    rfl
  | [], y :: m => by
    rw [decide_eq_false (fun z => nomatch z)]
    rfl
  | x :: l, [] => by
    rw [decide_eq_false (fun z => nomatch z)]
    rfl
  | x :: l, y :: m => by
    show (PyData.eqv (.int _) (.int _) && PyData.eqvAll (l.map _) (m.map _)) = _
    rw [eqv_ints l m]
    show (((x : Int) == (y : Int)) && decide (l = m)) = _
    by_cases h : x = y
    · subst h
      rw [beq_self_eq_true, Bool.true_and]
      by_cases h2 : l = m
      · rw [decide_eq_true h2, decide_eq_true (by rw [h2])]
      · rw [decide_eq_false h2, decide_eq_false (fun z => h2 (List.cons.inj z).2)]
    · have e : ((x : Int) == (y : Int)) = false := beq_eq_false_iff_ne.mpr (fun z => h (by omega))
      rw [e, Bool.false_and, decide_eq_false (fun z => h (List.cons.inj z).1)]
theorem eqv_pdI (l m : List Nat) : PyData.eqv (pdI l) (pdI m) = decide (l = m) := by
  show PyData.eqvAll _ _ = _
  exact eqv_ints l m
theorem x_eqL (h1 : H p = some (.lst (iv l))) (h2 : H q = some (.lst (iv m))) (k : Q (.bl (decide (l = m))) H) : rEqD K (.ref p) (.ref q) H Q :=
  ⟨pdI l, pdI m, dp_iv h1, dp_iv h2, shaped_pdI l, shaped_pdI m, by rw [eqv_pdI]; exact k⟩
theorem x_neL (h1 : H p = some (.lst (iv l))) (h2 : H q = some (.lst (iv m))) (k : Q (.bl (!decide (l = m))) H) : rNeD K (.ref p) (.ref q) H Q :=
  ⟨pdI l, pdI m, dp_iv h1, dp_iv h2, shaped_pdI l, shaped_pdI m, by rw [eqv_pdI]; exact k⟩
end
/-! ### pairs, enumerate -/
section
variable {K : PySem.W.Frag} {σ : L2.St} {H : Hp} {D : Ends} {p : Addr} {v w : V}
theorem x_par {i j : Nat} {ta : TA} (h : ta σ H fun vs H1 => ∃ v w, vs = [v, w] ∧ D.nx ((σ.set i (some v)).set j (some w)) H1) : tPar i j ta D σ H := h
theorem x_pair {R : V → V → Prop} (h : R v w) : ∃ x y, [v, w] = [x, y] ∧ R x y := ⟨v, w, rfl, h⟩
theorem x_tup2 {i j n : Nat} {R : L2.St → Hp → Prop} (h : H p = some (.tup [v, w])) (hn : 2 = n) (k : R ((σ.set i (some v)).set j (some w)) H) : gTup K n (gCons (gName i) (gCons (gName j) gNil)) (.ref p) σ H R :=
  ⟨p, [v, w], rfl, SqT.of h, hn, v, [w], rfl, w, [], rfl, rfl, k⟩
theorem for_en {a : Addr} {xs : List V} {g : TG} {tb : TS} (Pv : Nat → L2.St → Hp → Prop) (h0 : Pv 0 σ H) (hq : ∀ i σ H, Pv i σ H → SqL K H a xs)
    (hs : ∀ (i : Nat) (x : V) (σ : L2.St) (H : Hp), xs[i]? = some x → Pv i σ H → ∀ t, H t = none → g (.ref t) σ (upd H t (.tup [.int (i : Int), x])) fun σ2 H2 => tb { D with nx := Pv (i + 1), ct := Pv (i + 1), bk := D.nx } σ2 H2) (hd : ∀ σ H, Pv xs.length σ H → D.nx σ H) :
    ∃ W : Nat → Nat → L2.St → Hp → Prop, (∃ m, W 0 m σ H) ∧ ∀ i m σ H, W i m σ H →
      ((Ite K a).stop i H ∧ D.nx σ H) ∨ ((Ite K a).go i H ∧ ∃ N : L2.St → Hp → Prop, (∀ σ' H', N σ' H' → ∃ m', m' < m ∧ W (i + 1) m' σ' H') ∧ ∀ x H', (Ite K a).yld i H x H' → g x σ H' fun σ2 H2 => tb { D with nx := N, ct := N, bk := D.nx } σ2 H2) := by
  refine ⟨fun i m σ H => m = xs.length - i ∧ i ≤ xs.length ∧ Pv i σ H, ⟨xs.length, rfl, Nat.zero_le _, h0⟩, ?_⟩
  rintro i m σ H ⟨rfl, hi, p⟩
  have q := hq i σ H p
  by_cases hlt : i < xs.length
  · refine .inr ⟨⟨xs, xs[i], q, List.getElem?_eq_getElem hlt⟩, Pv (i + 1), fun σ' H' p' => ⟨xs.length - (i + 1), by omega, rfl, hlt, p'⟩, fun x H' y => ?_⟩
    obtain ⟨T, u, rfl, hT, rfl, hy⟩ := y
    exact hs i u σ H (hy xs q) p T hT
  · have e : i = xs.length := by omega
    subst e
    exact .inl ⟨⟨xs, q, Nat.le_refl _⟩, hd σ H p⟩
theorem x_rep {Q : VK} {k : Nat} (h : H p = some (.lst [v])) (hk : k ≤ 100000) (q : ∀ d, H d = none → Q (.ref d) (upd H d (.lst (List.replicate k v)))) : rRep (.ref p) (.int (k : Int)) H Q := by
  refine ⟨p, k, [v], rfl, rfl, h, by omega, by omega, ?_, fun d hd => ?_⟩
  · show 1 * (k : Int).toNat ≤ sizeLine
    have : (100000 : Nat) ≤ sizeLine := by decide
    omega
  · have e : (List.replicate (k : Int).toNat [v]).flatten = List.replicate k v := by
      rw [Int.toNat_natCast]
      induction k with
      | zero => rfl
      | succ k ih =>
        rw [List.replicate_succ, List.flatten_cons, List.replicate_succ]
        show v :: (List.replicate k [v]).flatten = v :: List.replicate k v
        congr 1
        clear ih q hk
        induction k with
        | zero => rfl
        | succ k ih =>
          rw [List.replicate_succ, List.flatten_cons, List.replicate_succ, ← ih]
          rfl
    rw [e]
    exact q d hd
theorem sz {n : Nat} (h : n ≤ 100000) : n ≤ sizeLine := Nat.le_trans h (by decide)
theorem iv_replicate (k x : Nat) : List.replicate k (V.int (x : Int)) = iv (List.replicate k x) := by
  unfold iv
  rw [List.map_replicate]
end
/-! ### is True, is False, of anything -/
def rIsG : R2 := fun x y H Q => ∃ b : Bool, y = .bl b ∧ Q (.bl (decide (x = .bl b))) H
def rNotG : R2 := fun x y H Q => ∃ b : Bool, y = .bl b ∧ Q (.bl (!decide (x = .bl b))) H
theorem is_bool_gen {M : Model} {A : Around} {E : Value → Shared → Prop} {s : Shared} {Q : Value → Shared → Prop} {x : V} {v : Value} {d : Bool} (r : RelV x v) (h : Q (.bool (decide (x = .bl d))) s) : wpAny M A (compareOp .Is v (.bool d)) Q E s := by
  cases x with
  | non => cases (show v = Value.none from r); exact wpAny_pure (a := Value.bool (Value.none == Value.bool d)) h
  | bl b =>
    cases (show v = Value.bool b from r)
    refine is_bool ?_
    have e : decide (V.bl b = .bl d) = (b == d) := dec_bl
    rw [e] at h
    exact h
  | int i => obtain ⟨t, rfl⟩ := (show ∃ t, v = Value.int i t from r); exact wpAny_pure (a := Value.bool (Value.int i t == Value.bool d)) h
  | str i => obtain ⟨t, rfl⟩ := (show ∃ t, v = Value.str i t from r); exact wpAny_pure (a := Value.bool (Value.str i t == Value.bool d)) h
  | byt i => obtain ⟨t, rfl⟩ := (show ∃ t, v = Value.bytes i t from r); exact wpAny_pure (a := Value.bool (Value.bytes i t == Value.bool d)) h
  | flt i => obtain ⟨t, rfl⟩ := (show ∃ t, v = Value.float i t from r); exact wpAny_pure (a := Value.bool (Value.float i t == Value.bool d)) h
  | ref i => cases (show v = Value.ref i from r); exact wpAny_pure (a := Value.bool (Value.ref i == Value.bool d)) h
  | ty i => cases (show v = Value.type i from r); exact wpAny_pure (a := Value.bool (Value.type i == Value.bool d)) h
theorem isnot_bool_gen {M : Model} {A : Around} {E : Value → Shared → Prop} {s : Shared} {Q : Value → Shared → Prop} {x : V} {v : Value} {d : Bool} (r : RelV x v) (h : Q (.bool (!decide (x = .bl d))) s) : wpAny M A (compareOp .IsNot v (.bool d)) Q E s := by
  cases x with
  | non => cases (show v = Value.none from r); exact wpAny_pure (a := Value.bool (!(Value.none == Value.bool d))) h
  | bl b =>
    cases (show v = Value.bool b from r)
    refine isnot_bool ?_
    have e : decide (V.bl b = .bl d) = (b == d) := dec_bl
    rw [e] at h
    exact h
  | int i => obtain ⟨t, rfl⟩ := (show ∃ t, v = Value.int i t from r); exact wpAny_pure (a := Value.bool (!(Value.int i t == Value.bool d))) h
  | str i => obtain ⟨t, rfl⟩ := (show ∃ t, v = Value.str i t from r); exact wpAny_pure (a := Value.bool (!(Value.str i t == Value.bool d))) h
  | byt i => obtain ⟨t, rfl⟩ := (show ∃ t, v = Value.bytes i t from r); exact wpAny_pure (a := Value.bool (!(Value.bytes i t == Value.bool d))) h
  | flt i => obtain ⟨t, rfl⟩ := (show ∃ t, v = Value.float i t from r); exact wpAny_pure (a := Value.bool (!(Value.float i t == Value.bool d))) h
  | ref i => cases (show v = Value.ref i from r); exact wpAny_pure (a := Value.bool (!(Value.ref i == Value.bool d))) h
  | ty i => cases (show v = Value.type i from r); exact wpAny_pure (a := Value.bool (!(Value.type i == Value.bool d))) h
section
variable {X : Cx}
theorem op_isG : OpR X (compareOp .Is) rIsG := by
  intro pins s σ H x y v u Q I rx ry h
  obtain ⟨b, rfl, q⟩ := h
  cases (show u = Value.bool b from ry)
  exact is_bool_gen rx ⟨.bl _, H, I, rfl, q⟩
theorem op_notG : OpR X (compareOp .IsNot) rNotG := by
  intro pins s σ H x y v u Q I rx ry h
  obtain ⟨b, rfl, q⟩ := h
  cases (show u = Value.bool b from ry)
  exact isnot_bool_gen rx ⟨.bl _, H, I, rfl, q⟩
end
theorem x_isG {H : Hp} {Q : VK} {x : V} {b : Bool} (q : Q (.bl (decide (x = .bl b))) H) : rIsG x (.bl b) H Q := ⟨b, rfl, q⟩
theorem x_notG {H : Hp} {Q : VK} {x : V} {b : Bool} (q : Q (.bl (!decide (x = .bl b))) H) : rNotG x (.bl b) H Q := ⟨b, rfl, q⟩
/-- an if without else whose one store is a name: what follows is shown once, for every value it may have -/
theorem x_ifJ {σ : L2.St} {H : Hp} {D : Ends} {tt : TT} {tu : TS} (i : Nat) (W : V → Prop) (k : ∀ v H', Same H H' → W v → D.nx (σ.set i (some v)) H') (h : ∀ R : L2.St → Hp → Prop, (∀ v H', Same H H' → W v → R (σ.set i (some v)) H') → tIfS tt tu tNext { D with nx := R } σ H) : tIfS tt tu tNext D σ H := h D.nx k
theorem Trk.take {H0 H : Hp} {L : List (Addr × HO)} (T : Trk H0 H L) (k : Nat) : Trk H0 H (L.take k) := ⟨T.same, fun p hp => T.new p (List.mem_of_mem_take hp), by
  rw [List.map_take]
  exact List.Nodup.sublist (List.take_sublist _ _) T.nd, fun p hp => T.at_ p (List.mem_of_mem_take hp)⟩
theorem cut_last {xs : List V} {v : V} : cutV (xs ++ [v]) none (some (-1)) = xs := by
  unfold cutV
  rw [HT.sIx_none]
  have e : HT.sIx (xs ++ [v]).length (xs ++ [v]).length (some (-1)) = xs.length := by
    unfold HT.sIx
    rw [List.length_append, List.length_singleton]
    simp only []
    split <;> omega
  rw [e, Nat.sub_zero, List.drop_zero, List.take_left]
theorem top_nat (b t x : Nat) : (t : Int) * (b : Int) + (x : Int) = ((x + b * t : Nat) : Int) := by
  rw [Int.natCast_add, Int.natCast_mul, Int.mul_comm, Int.add_comm]

/-! ### objects laid while T is told on -/
section
variable {K : PySem.W.Frag} {H0 H : Hp} {L : List (Addr × HO)} {Q : VK} {xs : List V} {o : HO}
theorem t_new (T : Trk H0 H L) (hz : xs.length ≤ 100000) (k : ∀ d, Trk H0 (upd H d (.lst xs)) ((d, .lst xs) :: L) → Q (.ref d) (upd H d (.lst xs))) : rNewL xs H Q := ⟨sz hz, fun d hd => k d (T.lay hd)⟩
theorem t_tup (T : Trk H0 H L) (hz : xs.length ≤ 100000) (k : ∀ d, Trk H0 (upd H d (.tup xs)) ((d, .tup xs) :: L) → Q (.ref d) (upd H d (.tup xs))) : rNewT xs H Q := ⟨sz hz, fun d hd => k d (T.lay hd)⟩
theorem t_list {p : Addr} (T : Trk H0 H L) (h : H p = some (.lst xs)) (k : ∀ d, Trk H0 (upd H d (.lst xs)) ((d, .lst xs) :: L) → Q (.ref d) (upd H d (.lst xs))) : rList1 K [.ref p] H Q := x_list h fun d hd => k d (T.lay hd)
theorem t_cut {p : Addr} {lo hi : Option Int} (T : Trk H0 H L) (h : H p = some (.lst xs)) (k : ∀ d, Trk H0 (upd H d (.lst (cutV xs lo hi))) ((d, .lst (cutV xs lo hi)) :: L) → Q (.ref d) (upd H d (.lst (cutV xs lo hi)))) : rSlL K (.ref p) lo hi H Q := x_cut h fun d hd => k d (T.lay hd)
theorem t_cat {p q : Addr} {ys : List V} (T : Trk H0 H L) (h1 : H p = some (.lst xs)) (h2 : H q = some (.lst ys)) (hz : xs.length + ys.length ≤ 100000) (k : ∀ d, Trk H0 (upd H d (.lst (xs ++ ys))) ((d, .lst (xs ++ ys)) :: L) → Q (.ref d) (upd H d (.lst (xs ++ ys)))) : rCat (.ref p) (.ref q) H Q := x_cat h1 h2 hz fun d hd => k d (T.lay hd)
theorem t_rep {p : Addr} {v : V} {i : Nat} (T : Trk H0 H L) (h : H p = some (.lst [v])) (hk : i ≤ 100000) (k : ∀ d, Trk H0 (upd H d (.lst (List.replicate i v))) ((d, .lst (List.replicate i v)) :: L) → Q (.ref d) (upd H d (.lst (List.replicate i v)))) : rRep (.ref p) (.int (i : Int)) H Q := x_rep h hk fun d hd => k d (T.lay hd)
/-- a promise of a list, of a value, while T is told on -/
theorem t_retL (T : Trk H0 H L) (k : ∀ p H', Trk H0 H' ((p, .lst xs) :: L) → Q (.ref p) H') : RetL xs H Q := fun p H' hp s h => k p H' (T.add s hp h)
theorem t_retV {v : V} (T : Trk H0 H L) (k : ∀ H', Trk H0 H' L → Q v H') : RetV v H Q := fun H' s => k H' (T.call s)
theorem t_retP {v : V} (T : Trk H0 H L) (k : ∀ t p H', Trk H0 H' ((t, .tup [.ref p, v]) :: (p, .lst xs) :: L) → Q (.ref t) H') : RetP xs v H Q := fun t p H' ht hp ne s h1 h2 => by
  refine k t p H' ⟨T.same.trans s, fun q hq => ?_, ?_, fun q hq => ?_⟩
  · rcases List.mem_cons.mp hq with rfl | hq
    · exact T.same.free ht
    · exact (T.add s hp h1).new q hq
  · rw [List.map_cons]
    refine List.nodup_cons.mpr ⟨fun hm => ?_, (T.add s hp h1).nd⟩
    rw [List.map_cons] at hm
    rcases List.mem_cons.mp hm with e | hm
    · exact ne e
    · obtain ⟨q, hq, e⟩ := List.mem_map.mp hm
      have := T.at_ q hq
      rw [e] at this
      rw [show H t = none from ht] at this
      cases this
  · rcases List.mem_cons.mp hq with rfl | hq
    · exact h2
    · exact (T.add s hp h1).at_ q hq
theorem t_retPP {ys : List V} (T : Trk H0 H L) (k : ∀ t p q H', Trk H0 H' ((t, .tup [.ref p, .ref q]) :: (p, .lst xs) :: (q, .lst ys) :: L) → Q (.ref t) H') : RetPP xs ys H Q := fun t p q H' ht hp hq n1 n2 n3 s h1 h2 h3 => by
  have T1 := T.add s hq h2
  have ne : ∀ (a : Addr), H a = none → ∀ r ∈ L, r.1 ≠ a := fun a ha r hr e => by
    have := T.at_ r hr
    rw [e, show H a = none from ha] at this
    cases this
  refine k t p q H' ⟨T.same.trans s, fun r hr => ?_, ?_, fun r hr => ?_⟩
  · rcases List.mem_cons.mp hr with rfl | hr
    · exact T.same.free ht
    · rcases List.mem_cons.mp hr with rfl | hr
      · exact T.same.free hp
      · exact T1.new r hr
  · rw [List.map_cons, List.map_cons]
    refine List.nodup_cons.mpr ⟨fun hm => ?_, List.nodup_cons.mpr ⟨fun hm => ?_, T1.nd⟩⟩
    · rcases List.mem_cons.mp hm with e | hm
      · exact n1 e
      · rw [List.map_cons] at hm
        rcases List.mem_cons.mp hm with e | hm
        · exact n2 e
        · obtain ⟨r, hr, e⟩ := List.mem_map.mp hm
          exact ne t ht r hr e
    · rw [List.map_cons] at hm
      rcases List.mem_cons.mp hm with e | hm
      · exact n3 e
      · obtain ⟨r, hr, e⟩ := List.mem_map.mp hm
        exact ne p hp r hr e
  · rcases List.mem_cons.mp hr with rfl | hr
    · exact h3
    · rcases List.mem_cons.mp hr with rfl | hr
      · exact h1
      · exact T1.at_ r hr
theorem t_app {i : Nat} {p : Addr} {v : V} (T : Trk H0 H L) (e : L[i]? = some (p, .lst xs)) (hz : xs.length < 100000) (k : Trk H0 (upd H p (.lst (xs ++ [v]))) (L.set i (p, .lst (xs ++ [v]))) → Q .non (upd H p (.lst (xs ++ [v])))) : rAppend (.ref p) [v] H Q :=
  x_app (T.get e) hz (k (T.mut i e))
end
/-! ### lengths -/
theorem digits_len_add {b n m k : Nat} (hb : 2 ≤ b) (h1 : (digits b n).length ≤ k) (h2 : (digits b m).length ≤ k) : (digits b (n + m)).length ≤ k + 1 := by
  refine digits_len_le hb ?_
  have a1 := (digits_len_lt hb).mp h1
  have a2 := (digits_len_lt hb).mp h2
  have a3 : b ^ k * 2 ≤ b ^ (k + 1) := by
    rw [Nat.pow_succ]
    exact Nat.mul_le_mul_left _ hb
  omega
theorem digits_len_mul {b n m k j : Nat} (hb : 2 ≤ b) (h1 : (digits b n).length ≤ k) (h2 : (digits b m).length ≤ j) : (digits b (n * m)).length ≤ k + j := by
  refine digits_len_le hb ?_
  have a1 := (digits_len_lt hb).mp h1
  have a2 := (digits_len_lt hb).mp h2
  rw [Nat.pow_add]
  have p1 : 0 < b ^ k := Nat.pow_pos (by omega)
  have p2 : 0 < b ^ j := Nat.pow_pos (by omega)
  rcases Nat.eq_zero_or_pos m with h | h
  · rw [h, Nat.mul_zero]
    exact Nat.mul_pos p1 p2
  · calc n * m < b ^ k * m := Nat.mul_lt_mul_of_pos_right a1 h
      _ ≤ b ^ k * b ^ j := Nat.mul_le_mul_left _ (Nat.le_of_lt a2)
theorem fn0 {P : Program} {w : World} {K : PySem.W.Frag} {mg : Str → Option Value} {base : Heap} {x : Str} {st : Stmt} {N ps : List Str} {k : Nat} {sp : Sp} {f : Addr} {fd : FuncData} (F : FunD K x x (defArgs st) (defBody st) (defScope st) [] [] f fd) (S : FnScope N ps (defScope st))
    (len : ∀ vs H Q E, sp vs H Q E → vs.length = ps.length)
    (hbody : ∀ (cdv : Value) (A : Around) (outer : List Env) (s : Shared) (H : Hp) (vs : List V) (Q : VK) (E : XK), Room k (A.deeper (envOfC x (defScope st) s.heap.objs.size f cdv)) → sp vs H Q E →
      ∃ t, PSs (cxOf CX0 P w K mg base N x (defScope st) f cdv A outer s H E).nox (defBody st) t ∧ t { nx := fun _ H' => Q .non H', rt := Q } (start N vs) H) : FnOk P w K mg base CX0 (k + 1) f fd ps sp := by
  refine F.ok S len fun cdv A outer s H vs Q E hr h => ?_
  obtain ⟨t, h1, h2⟩ := hbody cdv A outer s H vs Q E hr h
  exact ⟨t, h1.nox, h2⟩
/-- the law's promise -/
def spLaw (K : PySem.W.Frag) : Sp := fun vs H Q _ => ∃ (a : Addr) (ns : List Int), vs = [.ref a] ∧ SqL K H a (ns.map V.int) ∧ ∀ H', Q (.bl true) H'
theorem Dfn.of {K : PySem.W.Frag} {mg : Str → Option Value} {h : Heap} {x : Str} {st : Stmt} {fa : List He.Fa} {fn : List He.DefD} (c : He.SaysD fa fn K) (X : K.In h) (G : h.Ns mainGlobals mg) (i j : Nat) (hi : fn[i]? = some ⟨(x, none), x, x, defArgs st, defBody st, defScope st, [], []⟩) (hj : fa[j]? = some (.glo x)) : Dfn K mg x st := by
  obtain ⟨fd, F⟩ := c.def_ i hi
  exact ⟨_, fd, F, He.glo_ok X G (c.fact j hj)⟩
theorem free_of {K : PySem.W.Frag} {mg : Str → Option Value} {h : Heap} {x : Str} {fa : List He.Fa} {fn : List He.DefD} (c : He.SaysD fa fn K) (X : K.In h) (G : h.Ns mainGlobals mg) (j : Nat) (hj : fa[j]? = some (.free x)) : mg x = none := He.free_ok X G (c.fact j hj)
theorem int_of {K : PySem.W.Frag} {mg : Str → Option Value} {h : Heap} {x : Str} {i : Int} {fa : List He.Fa} {fn : List He.DefD} (c : He.SaysD fa fn K) (X : K.In h) (G : h.Ns mainGlobals mg) (j : Nat) (hj : fa[j]? = some (.int x i)) : ∃ t, mg x = some (.int i t) := He.int_ok X G (c.fact j hj)
/-! ### joins, picks -/
theorem x_mid {σ : L2.St} {H : Hp} {D : Ends} {t : TS} (Mid : L2.St → Hp → Prop) (h : ∀ R : L2.St → Hp → Prop, (∀ σ' H', Mid σ' H' → R σ' H') → t { D with nx := R } σ H) (k : ∀ σ' H', Mid σ' H' → D.nx σ' H') : t D σ H := h D.nx k
section
variable {H0 H : Hp} {L : List (Addr × HO)} {p q r : Addr} {o u v : HO}
theorem nd_ne {L : List (Addr × HO)} (nd : (L.map (·.1)).Nodup) {i j : Nat} {p q : Addr} {o u : HO} (e1 : L[i]? = some (p, o)) (e2 : L[j]? = some (q, u)) (hij : i ≠ j) : p ≠ q := fun z => by
  refine hij (nd_ix nd (x := p) ?_ ?_)
  · rw [List.getElem?_map, e1]
    rfl
  · rw [List.getElem?_map, e2, z]
    rfl
theorem Trk.one (T : Trk H0 H L) (i : Nat) (e : L[i]? = some (p, o)) : Trk H0 H [(p, o)] := ⟨T.same, fun x hx => by
  rw [List.mem_singleton.mp hx]
  exact T.fresh e, by
  rw [List.map_cons, List.map_nil]
  exact List.nodup_cons.mpr ⟨List.not_mem_nil, List.nodup_nil⟩, fun x hx => by
  rw [List.mem_singleton.mp hx]
  exact T.get e⟩
theorem Trk.cons (T : Trk H0 H L) (h0 : H0 p = none) (h : H p = some o) (hn : ∀ x ∈ L, x.1 ≠ p) : Trk H0 H ((p, o) :: L) := ⟨T.same, fun x hx => by
  rcases List.mem_cons.mp hx with rfl | hx
  · exact h0
  · exact T.new x hx, by
  rw [List.map_cons]
  refine List.nodup_cons.mpr ⟨fun hm => ?_, T.nd⟩
  obtain ⟨x, hx, e⟩ := List.mem_map.mp hm
  exact hn x hx e, fun x hx => by
  rcases List.mem_cons.mp hx with rfl | hx
  · exact h
  · exact T.at_ x hx⟩
theorem Trk.two (T : Trk H0 H L) (i j : Nat) (e1 : L[i]? = some (p, o)) (e2 : L[j]? = some (q, u)) (hij : i ≠ j) : Trk H0 H [(p, o), (q, u)] :=
  (T.one j e2).cons (T.fresh e1) (T.get e1) fun x hx => by
    rw [List.mem_singleton.mp hx]
    exact nd_ne T.nd e2 e1 (fun z => hij z.symm)
theorem Trk.three (T : Trk H0 H L) (i j k : Nat) (e1 : L[i]? = some (p, o)) (e2 : L[j]? = some (q, u)) (e3 : L[k]? = some (r, v)) (hij : i ≠ j) (hik : i ≠ k) (hjk : j ≠ k) : Trk H0 H [(p, o), (q, u), (r, v)] :=
  (T.two j k e2 e3 hjk).cons (T.fresh e1) (T.get e1) fun x hx => by
    rcases List.mem_cons.mp hx with rfl | hx
    · exact nd_ne T.nd e2 e1 (fun z => hij z.symm)
    · rw [List.mem_singleton.mp hx]
      exact nd_ne T.nd e3 e1 (fun z => hik z.symm)
theorem Trk.sub {L' : List (Addr × HO)} (T : Trk H0 H L) (h : L'.Sublist L) : Trk H0 H L' := ⟨T.same, fun p hp => T.new p (h.subset hp), (h.map _).nodup T.nd, fun p hp => T.at_ p (h.subset hp)⟩
theorem Trk.perm {L' : List (Addr × HO)} (T : Trk H0 H L) (h : L.Perm L') : Trk H0 H L' := ⟨T.same, fun p hp => T.new p (h.mem_iff.mpr hp), (h.map _).nodup_iff.mp T.nd, fun p hp => T.at_ p (h.mem_iff.mpr hp)⟩
theorem Trk.comp {H1 : Hp} {M : List (Addr × HO)} (T : Trk H0 H L) (T' : Trk H H1 M) : Trk H0 H1 (M ++ L) := by
  refine ⟨T.same.trans T'.same, fun p hp => ?_, ?_, fun p hp => ?_⟩
  · rcases List.mem_append.mp hp with h | h
    · cases e : H0 p.1 with
      | none => rfl
      | some o => exact absurd ((T.same _ _ e).symm.trans (T'.new p h)) (fun z => nomatch z)
    · exact T.new p h
  · rw [List.map_append]
    refine List.nodup_append.mpr ⟨T'.nd, T.nd, fun x hx y hy e => ?_⟩
    obtain ⟨u, hu, rfl⟩ := List.mem_map.mp hx
    obtain ⟨v, hv, rfl⟩ := List.mem_map.mp hy
    have h1 := T'.new u hu
    rw [e, T.at_ v hv] at h1
    cases h1
  · rcases List.mem_append.mp hp with h | h
    · exact T'.at_ p h
    · exact T'.same _ _ (T.at_ p h)
theorem Trk.four {p q r s : Addr} {o u v w : HO} (T : Trk H0 H L) (i j k l : Nat) (e1 : L[i]? = some (p, o)) (e2 : L[j]? = some (q, u)) (e3 : L[k]? = some (r, v)) (e4 : L[l]? = some (s, w)) (hij : i ≠ j) (hik : i ≠ k) (hil : i ≠ l) (hjk : j ≠ k) (hjl : j ≠ l) (hkl : k ≠ l) : Trk H0 H [(p, o), (q, u), (r, v), (s, w)] :=
  (T.three j k l e2 e3 e4 hjk hjl hkl).cons (T.fresh e1) (T.get e1) fun x hx => by
    rcases List.mem_cons.mp hx with rfl | hx
    · exact fun z => nd_ne T.nd e1 e2 hij z.symm
    rcases List.mem_cons.mp hx with rfl | hx
    · exact fun z => nd_ne T.nd e1 e3 hik z.symm
    rcases List.mem_cons.mp hx with rfl | hx
    · exact fun z => nd_ne T.nd e1 e4 hil z.symm
    cases hx
end
theorem cal_none {P : Program} {w : World} {K : PySem.W.Frag} {mg : Str → Option Value} {base : Heap} {x : Str} {st : Stmt} {ps : List Str} {k : Nat} {sp : Sp} {CX : CXT} (D : Dfn K mg x st)
    (hb : ∀ (kV doc pm : Value) (an : Option Addr) (cdv ct : Value) (us : List Value), us.length = ps.length → bindArgs (PySem.W.fnOf x x (defArgs st) (defBody st) (defScope st) .none kV doc pm an cdv ct) ⟨us, []⟩ = pure (ps.zip us))
    (hno : ∀ vs H Q E, ¬ sp vs H Q E) : Cal P w K mg base CX x k ps sp := by
  obtain ⟨f, fd, F, hm⟩ := D
  exact ⟨f, fd, ⟨fun vs H Q E h => absurd h (hno vs H Q E), fun A outer s H args us vs Q E _ _ _ _ h => absurd h (hno vs H Q E)⟩, hm, F.kp, F.bindsN hb⟩
/-- a loop over a list that leaves all as it is, but for its own name -/
theorem for_keep {K : PySem.W.Frag} {H0 H : Hp} {L : List (Addr × HO)} {σ : L2.St} {D : Ends} {tb : TS} {a : Addr} {xs : List V} {j : Nat} (T : Trk H0 H L) (ha : ∀ H', Trk H0 H' L → H' a = some (.lst xs)) (y0 : Option V) (h0 : σ.set j y0 = σ)
    (hs : ∀ (i : Nat) (x : V) (y : Option V) (H' : Hp), xs[i]? = some x → Trk H0 H' L → tb { D with nx := fun σ2 H2 => (∃ y, σ2 = σ.set j y) ∧ Trk H0 H2 L, ct := fun σ2 H2 => (∃ y, σ2 = σ.set j y) ∧ Trk H0 H2 L, bk := D.nx } (σ.set j (some x)) H') (hd : ∀ (y : Option V) (H' : Hp), Trk H0 H' L → D.nx (σ.set j y) H') :
    ∃ W : Nat → Nat → L2.St → Hp → Prop, (∃ m, W 0 m σ H) ∧ ∀ i m σ H, W i m σ H →
      ((Itl K a).stop i H ∧ D.nx σ H) ∨ ((Itl K a).go i H ∧ ∃ N : L2.St → Hp → Prop, (∀ σ' H', N σ' H' → ∃ m', m' < m ∧ W (i + 1) m' σ' H') ∧ ∀ x H', (Itl K a).yld i H x H' → gName j x σ H' fun σ2 H2 => tb { D with nx := N, ct := N, bk := D.nx } σ2 H2) := by
  refine for_list (xs := xs) (fun i σ' H' => (∃ y, σ' = σ.set j y) ∧ Trk H0 H' L) ⟨⟨y0, h0.symm⟩, T⟩ (fun i σ' H' _ h => SqL.of (ha H' h.2)) ?_ ?_
  · rintro i x σ' H' hx ⟨⟨y, rfl⟩, T⟩
    have h := hs i x (some x) H' hx T
    show tb _ ((σ.set j y).set j (some x)) H'
    rw [List.set_set]
    exact h
  · rintro σ' H' ⟨⟨y, rfl⟩, T⟩
    exact hd y H' T
/-- a loop over range(n) that changes one name besides its own -/
theorem for_rangeT {H0 H : Hp} {L : List (Addr × HO)} {σ : L2.St} {D : Ends} {tb : TS} {n j : Nat} (i1 : Nat) (val : Nat → V) (T : Trk H0 H L) (y0 : Option V) (h0 : (σ.set i1 (some (val 0))).set j y0 = σ)
    (hs : ∀ (i : Nat) (H' : Hp), i < n → Trk H0 H' L → tb { D with nx := fun σ2 H2 => (∃ y, σ2 = (σ.set i1 (some (val (i + 1)))).set j y) ∧ Trk H0 H2 L, ct := fun σ2 H2 => (∃ y, σ2 = (σ.set i1 (some (val (i + 1)))).set j y) ∧ Trk H0 H2 L, bk := D.nx } ((σ.set i1 (some (val i))).set j (some (.int (i : Int)))) H')
    (hd : ∀ (y : Option V) (H' : Hp), Trk H0 H' L → D.nx ((σ.set i1 (some (val n))).set j y) H') :
    ∃ W : Nat → Nat → L2.St → Hp → Prop, (∃ m, W 0 m σ H) ∧ ∀ i m σ H, W i m σ H →
      ((Itr 0 n).stop i H ∧ D.nx σ H) ∨ ((Itr 0 n).go i H ∧ ∃ N : L2.St → Hp → Prop, (∀ σ' H', N σ' H' → ∃ m', m' < m ∧ W (i + 1) m' σ' H') ∧ ∀ x H', (Itr 0 n).yld i H x H' → gName j x σ H' fun σ2 H2 => tb { D with nx := N, ct := N, bk := D.nx } σ2 H2) := by
  refine for_range (fun i σ' H' => (∃ y, σ' = (σ.set i1 (some (val i))).set j y) ∧ Trk H0 H' L) ⟨⟨y0, h0.symm⟩, T⟩ ?_ ?_
  · rintro i σ' H' hi ⟨⟨y, rfl⟩, T⟩
    have h := hs i H' hi T
    rw [Int.zero_add]
    show tb _ (((σ.set i1 (some (val i))).set j y).set j (some (.int (i : Int)))) H'
    rw [List.set_set]
    exact h
  · rintro σ' H' ⟨⟨y, rfl⟩, T⟩
    exact hd y H' T
theorem x_lc {wi : TI} {g : TG} {tt : TT} {te : TE} {vs : List Nat} {σ : L2.St} {H : Hp} {Q : VK} (h : wi σ H fun J H1 => ∀ D, H1 D = none → ∃ W : Nat → Nat → Hp → Prop, (∃ m, W 0 m (upd H1 D (.lst []))) ∧ ∀ i m H, W i m H →
  (J.stop i H ∧ Q (.ref D) H) ∨ (J.go i H ∧ ∃ Nx : Hp → Prop, (∀ H', Nx H' → ∃ m', m' < m ∧ W (i + 1) m' H') ∧ ∀ x H', J.yld i H x H' → g x (wipe σ vs) H' fun σ2 H2 => wipe σ2 vs = wipe σ vs ∧ tt σ2 H2 fun b H3 =>
    if b = true then te σ2 H3 fun y H4 => ∃ acc, H4 D = some (.lst acc) ∧ acc.length < sizeLine ∧ Nx (upd H4 D (.lst (acc ++ [y]))) else Nx H3)) : tLc wi g tt te vs σ H Q := h
theorem x_yes {σ : L2.St} {H : Hp} {R : Bool → Hp → Prop} (h : R true H) : tYes σ H R := h
/-! ### lists of two lists, compared -/
section
variable {K : PySem.W.Frag} {H : Hp} {Q : VK} {p q a c a' c' : Addr} {l m : List Nat}
theorem dp_two (hp : H p = some (.lst [.ref a, .ref c])) (ha : H a = some (.lst (iv l))) (hc : H c = some (.lst (iv m))) : Dp K H (.ref p) (.list [pdI l, pdI m]) := .lst (SqL.of hp) (.cons (dp_iv ha) (.cons (dp_iv hc) .nil))
theorem shaped_two (l m : List Nat) : SeqAt.shaped (.list [pdI l, pdI m]) = true := by
  unfold SeqAt.shaped
  have h1 : (PyData.list [pdI l, pdI m]).canLay0 = true := by
    show ((pdI l).canLay0 && ((pdI m).canLay0 && true)) = true
    rw [canLay_pdI, canLay_pdI]
    rfl
  have h2 : (PyData.list [pdI l, pdI m]).depth = 2 := by
    show max (pdI l).depth (max (pdI m).depth 0) + 1 = 2
    rw [depth_pdI, depth_pdI]
    rfl
  rw [h1, h2]
  rfl
theorem eqv_two (l m : List Nat) : PyData.eqv (.list [pdI l, pdI m]) (.list [pdI l, pdI m]) = true := by
  show (PyData.eqv (pdI l) (pdI l) && (PyData.eqv (pdI m) (pdI m) && true)) = true
  rw [eqv_pdI, eqv_pdI, decide_eq_true rfl, decide_eq_true rfl]
  rfl
theorem x_neLL (hp : H p = some (.lst [.ref a, .ref c])) (hq : H q = some (.lst [.ref a', .ref c'])) (ha : H a = some (.lst (iv l))) (hc : H c = some (.lst (iv m))) (ha' : H a' = some (.lst (iv l))) (hc' : H c' = some (.lst (iv m))) (k : Q (.bl false) H) : rNeD K (.ref p) (.ref q) H Q :=
  ⟨_, _, dp_two hp ha hc, dp_two hq ha' hc', shaped_two l m, shaped_two l m, by rw [eqv_two]; exact k⟩
theorem x_eqLL (hp : H p = some (.lst [.ref a, .ref c])) (hq : H q = some (.lst [.ref a', .ref c'])) (ha : H a = some (.lst (iv l))) (hc : H c = some (.lst (iv m))) (ha' : H a' = some (.lst (iv l))) (hc' : H c' = some (.lst (iv m))) (k : Q (.bl true) H) : rEqD K (.ref p) (.ref q) H Q :=
  ⟨_, _, dp_two hp ha hc, dp_two hq ha' hc', shaped_two l m, shaped_two l m, by rw [eqv_two]; exact k⟩
end
theorem pow_bits {b z k : Nat} (hb : 2 ≤ b ∧ b ≤ 1000000) (h : (digits b z).length ≤ k) : (z : Int).natAbs < 2 ^ (20 * k + 1) := by
  have h1 := (digits_len_lt hb.1).mp h
  have h2 : b ^ k ≤ (2 ^ 20) ^ k := Nat.pow_le_pow_left (by have := hb.2; omega) k
  rw [← Nat.pow_mul] at h2
  rw [Int.natAbs_natCast]
  exact Nat.lt_of_lt_of_le h1 (Nat.le_trans h2 (Nat.pow_le_pow_right (by decide) (Nat.le_succ _)))
theorem RetP.go {v : V} {i j : Nat} {t p : Addr} (k : RetP xs v H0 Q) (T : Trk H0 H L) (hij : i ≠ j) (e1 : L[i]? = some (t, .tup [.ref p, v])) (e2 : L[j]? = some (p, .lst xs)) : Q (.ref t) H := k t p H (T.fresh e1) (T.fresh e2) (nd_ne T.nd e1 e2 hij) T.same (T.get e2) (T.get e1)
theorem RetPP.go {ys : List V} {i j l : Nat} {t p q : Addr} (k : RetPP xs ys H0 Q) (T : Trk H0 H L) (hij : i ≠ j) (hil : i ≠ l) (hjl : j ≠ l) (e1 : L[i]? = some (t, .tup [.ref p, .ref q])) (e2 : L[j]? = some (p, .lst xs)) (e3 : L[l]? = some (q, .lst ys)) : Q (.ref t) H := k t p q H (T.fresh e1) (T.fresh e2) (T.fresh e3) (nd_ne T.nd e1 e2 hij) (nd_ne T.nd e1 e3 hil) (nd_ne T.nd e2 e3 hjl) T.same (T.get e2) (T.get e3) (T.get e1)

/-! ### exceptions -/
/-- an own class of errors -/
def Exc1 (K : PySem.W.Frag) (mg : Str → Option Value) (x : Str) : Prop := mg x = some (.ref (He.ga K x)) ∧ PySem.W.excIn K (He.ga K x) He.veBase "ValueError.__new__" = true ∧ PySem.W.keepIn K (.ref (He.ga K x)) = true ∧ PySem.W.subIn K (.ref (He.ga K x)) (.type "BaseException") = some true ∧
  PySem.W.typeIn K (.ref (He.ga K x)) = some (.type "type")
theorem raise1 {X : Cx} {W : WX} {x m : Str} {j : Nat} {p p2 pos pos' : Pos} (e : Exc1 X.K X.mg x) (hc : X.calm = true) (tk : Takes X W) (hg : Gl X x) (hdb : (x == ("__debug__" : Str)) = false := by decide) :
    PS X (.Raise (some (.Call (.Name x p) [.Constant (.str m) j p2] [] pos)) none pos') (fun _ σ H => W (.ref (He.ga X.K x)) none σ H) :=
  ps_raise hc tk (pmk_own PySem.F.excBase_ValueError e.2.1 e.1 e.2.2.1 (raises_own e.2.2.2.1 e.2.2.2.2) hg hdb)
theorem takes0 {X : Cx} : Takes X (fun _ _ _ _ => False) := fun _ _ ⟨_, _, _, _, _, _, _, _, _, _, _, _, _, _, _, _, w⟩ => w.elim
def tTryO (K : PySem.W.Frag) (c : Value) (ts : Addr → Value → Option Addr → TS) (Wout : WX) (tb : WX → TS) : TS := fun D σ H => tb (wOnly K c ts Wout D) D σ H
def tTryA (K : PySem.W.Frag) (c : Value) (i : Nat) (ts : Addr → Value → Option Addr → TS) (Wout : WX) (tb : WX → TS) : TS := fun D σ H => tb (wAs K c i ts Wout D) D σ H
section
variable {X : Cx} {x n : Str} {c : Value} {i : Nat} {body suite : List Stmt} {b₀ : Stmt} {np pos pos' : Pos} {tb : WX → TS} {ts : Addr → Value → Option Addr → TS} {Wout : WX}
theorem ps_tryO (hc : Names X x c) (hs : X.stack = X.env :: X.outer) (hf : X.env.frame = some X.env.locals) (tk : Takes X Wout)
    (hb : ∀ (W : WX) (pn : List (Addr × Obj)) (xe : Value → Shared → Prop), Takes (X.tr pn xe) W → PassesOwn (model X.prog X.w) X.A X.env xe → PSs (X.tr pn xe) body (tb W))
    (hsu : ∀ (a : Addr) (oe : Obj) (cls : Value) (d : Option Addr) (pn : List (Addr × Obj)), Zc cls d oe → (∃ vs, oe.data = .fields vs) → PSs (X.suite a ((a, oe) :: pn)) (b₀ :: suite) (ts a cls d)) :
    PS X (.Try body [.ExceptHandler (some (.Name x np)) none (b₀ :: suite) pos'] [] [] pos) (tTryO X.K c ts Wout tb) := ps_try_only hs hf hc tk hb hsu
theorem ps_tryA (hc : Names X x c) (hs : X.stack = X.env :: X.outer) (hf : X.env.frame = some X.env.locals) (hN : X.N.Nodup) (hi : X.N[i]? = some n) (hln : X.env.kindOf n = some .local) (tk : Takes X Wout)
    (hb : ∀ (W : WX) (pn : List (Addr × Obj)) (xe : Value → Shared → Prop), Takes (X.tr pn xe) W → PassesOwn (model X.prog X.w) X.A X.env xe → PSs (X.tr pn xe) body (tb W))
    (hsu : ∀ (a : Addr) (oe : Obj) (cls : Value) (d : Option Addr) (pn : List (Addr × Obj)), Zc cls d oe → (∃ vs, oe.data = .fields vs) → PSs (X.suite a ((a, oe) :: pn)) (b₀ :: suite) (ts a cls d)) :
    PS X (.Try body [.ExceptHandler (some (.Name x np)) (some n) (b₀ :: suite) pos'] [] [] pos) (tTryA X.K c i ts Wout tb) := ps_try_as hs hf hN hi hln hc tk hb hsu
/-- a suite that asks the caught error, of a class of the program -/
def tExc (K : PySem.W.Frag) (cls : Value) (d : Option Addr) (t : Addr → TS) : TS := fun D σ H => ∃ Dc, cls = .ref Dc ∧ d = none ∧ ExcC K Dc ∧ t Dc D σ H
theorem pss_exc {ss : List Stmt} {t : Addr → TS} {cls : Value} {d : Option Addr} {oe : Obj} {K : PySem.W.Frag} (hz : Zc cls d oe) (h : ∀ Dc, ExcC K Dc → Zc (.ref Dc) none oe → PSs X ss (t Dc)) : PSs X ss (tExc K cls d t) := by
  refine ⟨fun pins s σ H D I ⟨Dc, e1, e2, hc, q⟩ => ?_⟩
  subst e1 e2
  exact (h Dc hc hz).run pins s σ H D I q
end
section
variable {K : PySem.W.Frag} {σ : L2.St} {H : Hp} {D : Ends} {Q : VK} {c cls : Value} {d : Option Addr} {i : Nat} {ts : Addr → Value → Option Addr → TS} {Wout : WX} {tb : WX → TS} {sp : Sp} {E : L2.St → XK} {t : TA}
theorem x_tryO (h : tb (wOnly K c ts Wout D) D σ H) : tTryO K c ts Wout tb D σ H := h
theorem x_tryA (h : tb (wAs K c i ts Wout D) D σ H) : tTryA K c i ts Wout tb D σ H := h
theorem x_callS (h : t σ H fun vs H1 => sp vs H1 Q (E σ)) : tCallS sp E t σ H Q := h
theorem w_only (e : PySem.W.exmOne K cls c = some true) (h : ∀ a, H a = none → ts a cls d D σ H) : WE (wOnly K c ts Wout D) σ cls d H := ⟨true, e, fun _ => h, fun q => nomatch q⟩
theorem w_as (e : PySem.W.exmOne K cls c = some true) (h : ∀ a, H a = none → ts a cls d { nx := fun σ' H' => D.nx (σ'.set i none) H', rt := D.rt, bk := fun σ' H' => D.bk (σ'.set i none) H', ct := fun σ' H' => D.ct (σ'.set i none) H' } (σ.set i (some (.ref a))) H) : WE (wAs K c i ts Wout D) σ cls d H := ⟨true, e, fun _ => h, fun q => nomatch q⟩
theorem x_exc {C : Addr} {t : Addr → TS} (hc : ExcC K C) (h : t C D σ H) : tExc K (.ref C) none t D σ H := ⟨C, rfl, rfl, hc, h⟩
theorem x_isE {a C : Addr} {v : V} {cv : Value} {b : Bool} (e : PySem.W.kitOne K (.ref C) cv = some b) (hv : ∀ u, RelV v u → u = cv) (k : Q (.bl b) H) : rIsE K C a [.ref a, v] H Q := ⟨v, cv, b, rfl, hv, e, k⟩
theorem rel_ty {n : String} : ∀ u, RelV (.ty n) u → u = .type n := fun _ h => h
theorem rel_ref {a : Addr} : ∀ u, RelV (.ref a) u → u = .ref a := fun _ h => h
end
theorem call_list1T {X : Cx} {K : PySem.W.Frag} (h : X.K = K) : CallR X (.type "list") (rList1 K) := h ▸ call_list1
theorem ix_listT {X : Cx} {K : PySem.W.Frag} (h : X.K = K) : IxR X (rIxL K) := h ▸ ix_list
theorem op_eqDT {X : Cx} {K : PySem.W.Frag} (h : X.K = K) (hu : X.A.units + 64 < cLine) : OpR X (compareOp .Eq) (rEqD K) := h ▸ op_eqD hu
theorem call_len1T {X : Cx} {K : PySem.W.Frag} (h : X.K = K) : CallR X (.builtin "len") (rLen1 K) := h ▸ call_len1
theorem pe_appT {X : Cx} {K : PySem.W.Frag} {o e : Expr} {es : List Expr} {to : TE} {t : TA} {apos cpos : Pos} (h : X.K = K) (ho : PE X o to) (ha : PA X (e :: es) t)
    (hbase : attributeBase o "append" X.env (eval o X.env) = eval o X.env := by rfl)
    (hfew : ((backTo cpos (starEach (e :: es) X.env)).all (fun x => !x.1) && (backToKw cpos (keywordEach [] X.env)).all (fun x => x.1.isSome)
      && decide ((e :: es).length + ([] : List Keyword).length + (if ([] : List Keyword).isEmpty then 0 else 1) < 30)) = true := by rfl)
    (hline : (apos.endLine == cpos.line) = true := by rfl) (hs : starEach (e :: es) X.env = (false, eval e X.env) :: starEach es X.env := by rfl) (hplain : (backTo cpos (starEach es X.env)).any (·.1) = false := by rfl) :
    PE X (.Call (.Attribute o "append" apos) (e :: es) [] cpos) (tBM K "list" rAppend to t) := h ▸ pe_bm PySem.F.plainAttrs_list PySem.F.slot_list_append PySem.F.type_list_append mt_append ho ha hbase hfew hline hs hplain
section
variable {X : Cx} {W : WX} {x : Str} {j k : Nat} {ps : List Str} {sp : Sp} {E : XK} {p pos : Pos} {e : Expr} {es : List Expr} {t : TA}
/-- a call in the body of a try -/
theorem pcS (C : Cal X.prog X.w X.K X.mg X.base (L2.CX X.prog X.w) x j ps sp) (hr : Room k X.A) (tk : Takes X W) (ha : PA X (e :: es) t) (hk : j ≤ k := by omega) (hg : Gl X x := by rfl) (hdb : (x == ("__debug__" : Str)) = false := by decide)
    (he : starEach (e :: es) X.env = (false, eval e X.env) :: starEach es X.env := by rfl) (hpl : (backTo pos (starEach es X.env)).any (·.1) = false := by rfl) : PE X (.Call (.Name x p) (e :: es) [] pos) (tCallS sp (WE W) t) := by
  obtain ⟨f, fd, F, hm, kp, b⟩ := C
  exact pe_callS F (hr.mono hk) hg hm kp b (fun σ => passAt tk σ) ha hdb he hpl
/-- a call that may raise, in a def that may -/
theorem pcE (C : Cal X.prog X.w X.K X.mg X.base (L2.CX X.prog X.w) x j ps sp) (hr : Room k X.A) (tk : Takes X (fun cls d _ H => E cls d H)) (ha : PA X (e :: es) t) (hk : j ≤ k := by omega) (hg : Gl X x := by rfl) (hdb : (x == ("__debug__" : Str)) = false := by decide)
    (he : starEach (e :: es) X.env = (false, eval e X.env) :: starEach es X.env := by rfl) (hpl : (backTo pos (starEach es X.env)).any (·.1) = false := by rfl) : PE X (.Call (.Name x p) (e :: es) [] pos) (tCall sp [] E t) :=
  pcX C hr (passes_call tk fun _ _ _ _ h => h) ha hk hg hdb he hpl
end
/-! ### the head, with the classes' own facts -/
inductive ExF where
  | own (x : Str)
  | kit (x y : Str) (b : Bool)
  | kitT (x : Str) (t : String) (b : Bool)
def ExF.ok (K : PySem.W.Frag) : ExF → Bool
  | .own x => (decide (PySem.W.findIn K (.ref (He.ga K x)) "__getattribute__" = some (some (.builtin "BaseException.__getattribute__"))) && (decide (PySem.W.findIn K (.ref (He.ga K x)) "__getattr__" = some none) && (decide (PySem.W.subIn K (.ref (He.ga K x)) (.type "BaseException") = some true) &&
    (PySem.W.hasDictIn K (He.ga K x) && (decide (PySem.W.findIn K (.ref (He.ga K x)) "__class__" = some (some (.builtin "object.__class__"))) && (decide (PySem.W.specialIn K (.builtin "object.__class__") "__get__" = some (some (.builtin "getset_descriptor.__get__"))) &&
    (decide (PySem.W.takesIn K (.builtin "object.__class__") = some true) && decide (PySem.W.mroIn K (He.ga K x) (.type "object") = some true))))))))
  | .kit x y b => decide (PySem.W.kitOne K (.ref (He.ga K x)) (.ref (He.ga K y)) = some b)
  | .kitT x t b => decide (PySem.W.kitOne K (.ref (He.ga K x)) (.type t) = some b)
theorem own_ok {K : PySem.W.Frag} {x : Str} (h : (ExF.own x).ok K = true) : ExcC K (He.ga K x) := by
  obtain ⟨h1, h⟩ := He.ba h
  obtain ⟨h2, h⟩ := He.ba h
  obtain ⟨h3, h⟩ := He.ba h
  obtain ⟨h4, h⟩ := He.ba h
  obtain ⟨h5, h⟩ := He.ba h
  obtain ⟨h6, h⟩ := He.ba h
  obtain ⟨h7, h8⟩ := He.ba h
  exact ⟨of_decide_eq_true h1, of_decide_eq_true h2, of_decide_eq_true h3, h4, of_decide_eq_true h5, of_decide_eq_true h6, of_decide_eq_true h7, of_decide_eq_true h8⟩
theorem kit_ok {K : PySem.W.Frag} {x y : Str} {b : Bool} (h : (ExF.kit x y b).ok K = true) : PySem.W.kitOne K (.ref (He.ga K x)) (.ref (He.ga K y)) = some b := of_decide_eq_true h
theorem kitT_ok {K : PySem.W.Frag} {x : Str} {t : String} {b : Bool} (h : (ExF.kitT x t b).ok K = true) : PySem.W.kitOne K (.ref (He.ga K x)) (.type t) = some b := of_decide_eq_true h
abbrev AlF : Type := He.AlD × Bool
def obsF (fa : List He.Fa) (fn : List He.DefD) (ex : List ExF) (K : PySem.W.Frag) : AlF := (He.obsD fa fn K, ex.all fun e => e.ok K)
def obsFG (n : Nat) (fa : List He.Fa) (fn : List He.DefD) (ex : List ExF) (g : Addr → Option Obj) : AlF := obsF fa fn ex (He.frG g (He.asD g n))
def hookF (n : Nat) (fa : List He.Fa) (fn : List He.DefD) (ex : List ExF) : PySem.W.Hook where
  α := AlF
  obs := fun s => obsFG n fa fn ex s.heap.get?
  val := fun _ => (He.valD fn, true)
  says := fun _ h => ∃ K : PySem.W.Frag, K.In h ∧ He.SaysD fa fn K ∧ (ex.all fun e => e.ok K) = true
  of := fun _ _ e => ⟨_, He.frG_in, congrArg (fun z : AlF => z.1) e, congrArg (fun z : AlF => z.2) e⟩
  keeps := fun _ _ _ ⟨K, hK, c⟩ k => ⟨K, PySem.W.Frag.In.keeps hK k, c⟩
theorem obsFG_eq {n : Nat} {fa : List He.Fa} {fn : List He.DefD} {ex : List ExF} {g : Addr → Option Obj} {s : Shared} (h : ∀ a, g a = s.heap.get? a) : obsFG n fa fn ex g = (hookF n fa fn ex).obs s := by
  have e : g = s.heap.get? := funext h
  rw [e] <;> rfl
theorem ex_at {K : PySem.W.Frag} {ex : List ExF} (c : (ex.all fun e => e.ok K) = true) (i : Nat) {f : ExF} (h : ex[i]? = some f := by rfl) : f.ok K = true := List.all_eq_true.mp c f (List.mem_of_getElem? h)

/-! ### texts -/
section
variable {K : PySem.W.Frag} {σ : L2.St} {H : Hp} {D : Ends} {Q : VK} {x y : Str} {te : TE}
theorem for_str {g : TG} {tb : TS} (Pv : Nat → L2.St → Hp → Prop) (h0 : Pv 0 σ H)
    (hs : ∀ (i c : Nat) (σ : L2.St) (H : Hp), x.cps[i]? = some c → Pv i σ H → g (.str ⟨#[c]⟩) σ H fun σ2 H2 => tb { D with nx := Pv (i + 1), ct := Pv (i + 1), bk := D.nx } σ2 H2) (hd : ∀ σ H, Pv x.cps.size σ H → D.nx σ H) :
    ∃ W : Nat → Nat → L2.St → Hp → Prop, (∃ m, W 0 m σ H) ∧ ∀ i m σ H, W i m σ H →
      ((Its x).stop i H ∧ D.nx σ H) ∨ ((Its x).go i H ∧ ∃ N : L2.St → Hp → Prop, (∀ σ' H', N σ' H' → ∃ m', m' < m ∧ W (i + 1) m' σ' H') ∧ ∀ v H', (Its x).yld i H v H' → g v σ H' fun σ2 H2 => tb { D with nx := N, ct := N, bk := D.nx } σ2 H2) := by
  refine ⟨fun i m σ H => m = x.cps.size - i ∧ i ≤ x.cps.size ∧ Pv i σ H, ⟨x.cps.size, rfl, Nat.zero_le _, h0⟩, ?_⟩
  rintro i m σ H ⟨rfl, hi, p⟩
  by_cases hlt : i < x.cps.size
  · refine .inr ⟨hlt, Pv (i + 1), fun σ' H' p' => ⟨x.cps.size - (i + 1), by omega, rfl, hlt, p'⟩, fun v H' y => ?_⟩
    obtain ⟨e, c, hc, ev⟩ := y
    subst e ev
    exact hs i c σ _ hc p
  · have e : i = x.cps.size := by omega
    subst e
    exact .inl ⟨Nat.le_refl _, hd σ H p⟩
theorem x_iS {R : It → Hp → Prop} (h : te σ H fun v H1 => ∃ x, v = .str x ∧ R (Its x) H1) : iStr te σ H R := h
theorem x_iS1 {R : Str → Prop} (h : R x) : ∃ z, V.str x = .str z ∧ R z := ⟨x, rfl, h⟩
theorem x_eqS (h : Q (.bl (decide (x = y))) H) : rEq (.str x) (.str y) H Q := ⟨rfl, by
  by_cases e : x = y
  · subst e
    rw [decide_eq_true rfl] at h
    rw [decide_eq_true rfl]
    exact h
  · rw [decide_eq_false e] at h
    rw [decide_eq_false (fun z => e (V.str.inj z))]
    exact h⟩
theorem x_neS (h : Q (.bl (!decide (x = y))) H) : rNe (.str x) (.str y) H Q := ⟨rfl, by
  by_cases e : x = y
  · subst e
    rw [decide_eq_true rfl] at h
    rw [decide_eq_true rfl]
    exact h
  · rw [decide_eq_false e] at h
    rw [decide_eq_false (fun z => e (V.str.inj z))]
    exact h⟩
def rNotInS : R2 := fun x y H Q => ∃ (c : Nat) (z : Str), x = .str ⟨#[c]⟩ ∧ y = .str z ∧ Q (.bl (!decide (c ∈ z.cps.toList))) H
theorem op_notInS {X : Cx} : OpR X (compareOp .NotIn) rNotInS := op_notIn_sign
theorem x_notInS {c : Nat} (h : Q (.bl (!decide (c ∈ y.cps.toList))) H) : rNotInS (.str ⟨#[c]⟩) (.str y) H Q := ⟨c, y, rfl, rfl, h⟩
theorem x_ixC {i : Int} {c : Nat} (hz : x.length ≤ 100000) (e : atI x.cps.toList i = some c) (h : Q (.str ⟨#[c]⟩) H) : rIxS (.str x) (.int i) H Q := ⟨x, i, c, rfl, rfl, sz hz, e, h⟩
end
section
variable {σ : L2.St} {H : Hp} {Q : VK} {x y : Str}
theorem lc_Itv {K : PySem.W.Frag} {a : Addr} {xs : List V} {g : TG} {tt : TT} {te : TE} {vs : List Nat} {H1 : Hp} {D : Addr} {Qd : Hp → Prop} (Pv : Nat → Hp → Prop) (h0 : Pv 0 (upd H1 D (.lst []))) (hl : ∀ i H, Pv i H → SqL K H a xs)
    (hs : ∀ i x H, i < xs.length → xs[xs.length - 1 - i]? = some x → Pv i H → g x (wipe σ vs) H fun σ2 H2 => wipe σ2 vs = wipe σ vs ∧ tt σ2 H2 fun b H3 =>
      if b = true then te σ2 H3 fun y H4 => ∃ acc, H4 D = some (.lst acc) ∧ acc.length < sizeLine ∧ Pv (i + 1) (upd H4 D (.lst (acc ++ [y]))) else Pv (i + 1) H3) (hd : ∀ H, Pv xs.length H → Qd H) :
    ∃ W : Nat → Nat → Hp → Prop, (∃ m, W 0 m (upd H1 D (.lst []))) ∧ ∀ i m H, W i m H →
      ((Itv K a xs.length).stop i H ∧ Qd H) ∨ ((Itv K a xs.length).go i H ∧ ∃ Nx : Hp → Prop, (∀ H', Nx H' → ∃ m', m' < m ∧ W (i + 1) m' H') ∧ ∀ x H', (Itv K a xs.length).yld i H x H' → g x (wipe σ vs) H' fun σ2 H2 => wipe σ2 vs = wipe σ vs ∧ tt σ2 H2 fun b H3 =>
        if b = true then te σ2 H3 fun y H4 => ∃ acc, H4 D = some (.lst acc) ∧ acc.length < sizeLine ∧ Nx (upd H4 D (.lst (acc ++ [y]))) else Nx H3) := by
  refine ⟨fun i m H => m = xs.length - i ∧ i ≤ xs.length ∧ Pv i H, ⟨xs.length, by simp, Nat.zero_le _, h0⟩, ?_⟩
  rintro i m H ⟨rfl, hi, p⟩
  have q := hl i H p
  by_cases hlt : i < xs.length
  · have hj : xs.length - 1 - i < xs.length := by omega
    have hx : xs[xs.length - 1 - i]? = some xs[xs.length - 1 - i] := List.getElem?_eq_getElem hj
    refine .inr ⟨⟨hlt, xs, _, q, hx⟩, Pv (i + 1), fun H' p' => ⟨xs.length - (i + 1), by omega, rfl, hlt, p'⟩, fun x H' y => ?_⟩
    obtain ⟨e, y⟩ := y
    subst e
    exact hs i x _ hlt (y xs q) p
  · have e : i = xs.length := by omega
    subst e
    exact .inl ⟨Nat.le_refl _, hd H p⟩
def rStrI : List V → Hp → VK → Prop := fun xs H Q => ∃ i : Int, xs = [.int i] ∧ i.natAbs.log2 < 1920 ∧ Q (.str (Str.ofString (toString i))) H
theorem call_strI {X : Cx} : CallR X (.type "str") rStrI := call_str_int
theorem x_strI {i : Nat} (hi : i < 2 ^ 60) (q : Q (.str (Str.ofString (toString (i : Int)))) H) : rStrI [.int (i : Int)] H Q := ⟨i, rfl, by
  rw [Int.natAbs_natCast]
  exact Nat.lt_of_lt_of_le (PySem.Flt.log2_lt_of (k := 60) (by decide) hi) (by decide), q⟩
def rIntS : List V → Hp → VK → Prop := fun xs H Q => ∃ (a : Str) (n : Int), xs = [.str a] ∧ PySem.intText? a = some n ∧ a.length ≤ 640 ∧ Q (.int n) H
theorem call_intS {X : Cx} : CallR X (.type "int") rIntS := call_int_str
theorem x_intS {n : Int} (e : PySem.intText? x = some n) (hl : x.length ≤ 640) (q : Q (.int n) H) : rIntS [.str x] H Q := ⟨x, n, rfl, e, hl, q⟩
def rSplit : V → List V → Hp → VK → Prop := fun x xs H Q => ∃ a b : Str, x = .str a ∧ xs = [.str b] ∧ (b.length == 0) = false ∧ a.length + 2 ≤ sizeLine ∧ rNewStrs (Txt.split a b) H Q
def rJoin (K : PySem.W.Frag) : V → List V → Hp → VK → Prop := fun x xs H Q => ∃ (a : Str) (p : Addr), ∃ ys : List Str, x = .str a ∧ xs = [.ref p] ∧ (SqL K H p (ys.map V.str) ∨ SqT K H p (ys.map V.str)) ∧ (ys.map (·.length)).sum + ys.length * a.length ≤ 16777216 ∧ Q (.str (Txt.join a ys)) H
theorem pe_splitN {X : Cx} {o e : Expr} {to te : TE} {apos pos : Pos} (ho : PE X o to) (he : PE X e te) (hs : starEach [e] X.env = [(false, eval e X.env)] := by rfl) (hbase : attributeBase o "split" X.env (eval o X.env) = eval o X.env := by rfl) (hline : (apos.endLine == pos.line) = true := by rfl) :
    PE X (.Call (.Attribute o "split" apos) [e] [] pos) (tM1 rSplit to te) := pe_split ho he hs hbase hline
theorem pe_joinN {X : Cx} {o e : Expr} {to te : TE} {apos pos : Pos} (ho : PE X o to) (he : PE X e te) (hs : starEach [e] X.env = [(false, eval e X.env)] := by rfl) (hbase : attributeBase o "join" X.env (eval o X.env) = eval o X.env := by rfl) (hline : (apos.endLine == pos.line) = true := by rfl) :
    PE X (.Call (.Attribute o "join" apos) [e] [] pos) (tM1 (rJoin X.K) to te) := pe_join ho he hs hbase hline
theorem x_m1 {r : V → List V → Hp → VK → Prop} {to te : TE} (h : to σ H fun x H1 => (∃ a, x = .str a) ∧ te σ H1 fun y H2 => r x [y] H2 Q) : tM1 r to te σ H Q := h
theorem x_m1s {A : Prop} (h : A) : (∃ a, V.str x = .str a) ∧ A := ⟨⟨x, rfl⟩, h⟩
theorem x_split (hy : (y.length == 0) = false) (hx : x.length ≤ 100000) (k : ∀ p, H p = none → Q (.ref p) (upd H p (.lst ((Txt.split x y).map V.str)))) : rSplit (.str x) [.str y] H Q := ⟨x, y, rfl, rfl, hy, Nat.le_trans (by omega : x.length + 2 ≤ 100002) (by decide), k⟩
theorem x_join {K : PySem.W.Frag} {p : Addr} {ys : List Str} (h : H p = some (.lst (ys.map V.str))) (hz : (ys.map (·.length)).sum + ys.length * x.length ≤ 16777216) (q : Q (.str (Txt.join x ys)) H) : rJoin K (.str x) [.ref p] H Q := ⟨x, p, ys, rfl, rfl, .inl (SqL.of h), hz, q⟩
end

end Fg
set_option Elab.async false
set_option linter.all false
set_option maxRecDepth 100000
namespace Fg
open PySem PySem.Spec PyProof.Rows L2
def topS (i : Nat) : Stmt := PySem.Challenge.pw_figrow_k13_written_and_read.main.body.getD i (.Pass ⟨0, 0, 0, 0⟩)

/-! the walk: one step of a reading, by what stands at its head -/
local macro_rules | `(tactic| walk_at "fact") => `(tactic| first
  | assumption
  | (refine' Trk.get (i := 0) ?k1 ?k2; (case k1 => assumption); (case k2 => exact rfl))
  | (refine' Trk.get (i := 1) ?k1 ?k2; (case k1 => assumption); (case k2 => exact rfl))
  | (refine' Trk.get (i := 2) ?k1 ?k2; (case k1 => assumption); (case k2 => exact rfl))
  | (refine' Trk.get (i := 3) ?k1 ?k2; (case k1 => assumption); (case k2 => exact rfl))
  | (refine' Trk.get (i := 4) ?k1 ?k2; (case k1 => assumption); (case k2 => exact rfl))
  | (refine' Trk.get (i := 5) ?k1 ?k2; (case k1 => assumption); (case k2 => exact rfl))
  | (refine' Trk.get (i := 6) ?k1 ?k2; (case k1 => assumption); (case k2 => exact rfl))
  | (refine' Trk.get (i := 7) ?k1 ?k2; (case k1 => assumption); (case k2 => exact rfl))
  | (refine' Trk.get (i := 8) ?k1 ?k2; (case k1 => assumption); (case k2 => exact rfl))
  | (refine' Trk.get (i := 9) ?k1 ?k2; (case k1 => assumption); (case k2 => exact rfl))
  | (refine' Trk.get (i := 10) ?k1 ?k2; (case k1 => assumption); (case k2 => exact rfl))
  | (refine' Trk.get (i := 11) ?k1 ?k2; (case k1 => assumption); (case k2 => exact rfl))
  | (refine' Trk.get (i := 12) ?k1 ?k2; (case k1 => assumption); (case k2 => exact rfl))
  | (refine' Trk.get (i := 13) ?k1 ?k2; (case k1 => assumption); (case k2 => exact rfl))
  | (refine' Trk.get (i := 14) ?k1 ?k2; (case k1 => assumption); (case k2 => exact rfl))
  | (refine' Trk.get (i := 15) ?k1 ?k2; (case k1 => assumption); (case k2 => exact rfl))
  | (refine' Trk.get (i := 16) ?k1 ?k2; (case k1 => assumption); (case k2 => exact rfl))
  | (refine' Trk.get (i := 17) ?k1 ?k2; (case k1 => assumption); (case k2 => exact rfl))
  | (refine' Trk.get (i := 18) ?k1 ?k2; (case k1 => assumption); (case k2 => exact rfl))
  | (refine' Trk.get (i := 19) ?k1 ?k2; (case k1 => assumption); (case k2 => exact rfl))
  | (refine' Trk.get (i := 20) ?k1 ?k2; (case k1 => assumption); (case k2 => exact rfl))
  | (refine' Trk.get (i := 21) ?k1 ?k2; (case k1 => assumption); (case k2 => exact rfl))
  | (refine' Trk.get (i := 22) ?k1 ?k2; (case k1 => assumption); (case k2 => exact rfl))
  | (refine' Trk.get (i := 23) ?k1 ?k2; (case k1 => assumption); (case k2 => exact rfl))
  | (refine' Trk.get (i := 24) ?k1 ?k2; (case k1 => assumption); (case k2 => exact rfl))
  | (refine' Trk.get (i := 25) ?k1 ?k2; (case k1 => assumption); (case k2 => exact rfl))
  | (refine' Trk.get (i := 26) ?k1 ?k2; (case k1 => assumption); (case k2 => exact rfl))
  | (refine' Trk.get (i := 27) ?k1 ?k2; (case k1 => assumption); (case k2 => exact rfl))
  | (refine' Trk.get (i := 28) ?k1 ?k2; (case k1 => assumption); (case k2 => exact rfl))
  | (refine' Trk.get (i := 29) ?k1 ?k2; (case k1 => assumption); (case k2 => exact rfl))
  | (refine' Trk.get (i := 30) ?k1 ?k2; (case k1 => assumption); (case k2 => exact rfl))
  | (refine' Trk.get (i := 31) ?k1 ?k2; (case k1 => assumption); (case k2 => exact rfl))
  | (refine' Trk.get (i := 32) ?k1 ?k2; (case k1 => assumption); (case k2 => exact rfl))
  | (refine' Trk.get (i := 33) ?k1 ?k2; (case k1 => assumption); (case k2 => exact rfl))
  | (refine' Trk.get (i := 34) ?k1 ?k2; (case k1 => assumption); (case k2 => exact rfl))
  | (refine' Trk.get (i := 35) ?k1 ?k2; (case k1 => assumption); (case k2 => exact rfl))
  | (refine' Trk.get (i := 36) ?k1 ?k2; (case k1 => assumption); (case k2 => exact rfl))
  | (refine' Trk.get (i := 37) ?k1 ?k2; (case k1 => assumption); (case k2 => exact rfl))
  | (refine' Trk.get (i := 38) ?k1 ?k2; (case k1 => assumption); (case k2 => exact rfl))
  | (refine' Trk.get (i := 39) ?k1 ?k2; (case k1 => assumption); (case k2 => exact rfl))
  | (refine' Trk.get (i := 40) ?k1 ?k2; (case k1 => assumption); (case k2 => exact rfl))
  | (refine' Trk.get (i := 41) ?k1 ?k2; (case k1 => assumption); (case k2 => exact rfl))
  | (refine' Trk.get (i := 42) ?k1 ?k2; (case k1 => assumption); (case k2 => exact rfl))
  | (refine' Trk.get (i := 43) ?k1 ?k2; (case k1 => assumption); (case k2 => exact rfl))
  | (refine' Trk.get (i := 44) ?k1 ?k2; (case k1 => assumption); (case k2 => exact rfl))
  | (refine' Trk.up ?k1 ?k2; (case k1 => assumption); (case k2 => assumption))
  | (refine' Trk.sq ?k1 ?k2; (case k1 => assumption); (case k2 => assumption)))
local macro_rules | `(tactic| walk_at "s0") => `(tactic| first
  | with_reducible refine x_asg ?_
  | ((with_reducible refine x_name ?_); dsimp only [List.set_cons_zero, List.set_cons_succ])
  | with_reducible refine x_ret ?_
  | with_reducible refine x_drop ?_
  | with_reducible refine x_next ?_
  | ((with_reducible refine' x_var ?k1 ?_); (case k1 => exact rfl))
  | with_reducible refine x_c ?_
  | with_reducible refine x_op ?_
  | with_reducible refine x_un ?_
  | with_reducible refine x_I0 ?_
  | with_reducible refine x_U ?_
  | with_reducible refine x_eqI ?_
  | with_reducible refine x_isG ?_
  | with_reducible refine x_notG ?_
  | with_reducible refine x_par ?_
  | ((with_reducible refine x_pair ?_); dsimp only [List.set_cons_zero, List.set_cons_succ])
  | ((with_reducible refine' x_tup2 ?k1 ?k2 ?_); (case k1 => walk_at "fact"); (case k2 => exact rfl); dsimp only [List.set_cons_zero, List.set_cons_succ])
  | with_reducible refine x_neI ?_
  | with_reducible refine x_nil ?_
  | with_reducible refine x_cons ?_
  | with_reducible refine x_call ?_
  | with_reducible refine x_cb ?_
  | with_reducible refine x_test ?_
  | with_reducible refine x_B ?_
  | with_reducible refine x_bl ?_
  | with_reducible refine x_not ?_
  | with_reducible refine x_and ?_
  | with_reducible refine x_or ?_
  | with_reducible refine x_andV ?_
  | with_reducible refine x_orV ?_
  | with_reducible refine x_notV ?_
  | with_reducible refine x_ifE ?_
  | with_reducible refine x_chain ?_
  | with_reducible refine x_sl ?_
  | with_reducible refine x_po0 ?_
  | with_reducible refine x_po1 ?_
  | with_reducible refine x_part ?_
  | with_reducible refine x_lst ?_
  | with_reducible refine x_tup ?_
  | with_reducible refine x_bm ?_
  | with_reducible refine x_revL ?_
  | with_reducible refine x_for ?_
  | with_reducible refine x_lc ?_
  | with_reducible refine x_yes ?_
  | with_reducible refine x_iList ?_
  | with_reducible refine x_iRev ?_
  | with_reducible refine x_iR1 ?_
  | with_reducible refine x_iR3 ?_
  | with_reducible refine x_iEn ?_
  | with_reducible refine x_m1 ?_
  | with_reducible refine x_m1s ?_
  | with_reducible refine x_iS ?_
  | with_reducible refine x_iS1 ?_
  | with_reducible refine x_eqS ?_
  | with_reducible refine x_neS ?_
  | with_reducible refine x_notInS ?_
  | with_reducible refine x_max ?_
  | with_reducible refine x_min ?_
  | ((with_reducible refine' x_len ?k1 ?_); (case k1 => walk_at "fact"))
  | ((with_reducible refine' x_lenS ?k1 ?_); (case k1 => walk_at "fact"))
  | ((with_reducible refine' x_lenT ?k1 ?_); (case k1 => walk_at "fact"))
  | ((with_reducible refine' x_il ?k1 ?_); (case k1 => walk_at "fact"))
  | ((with_reducible refine' x_rv ?k1 ?_); (case k1 => walk_at "fact"))
  | ((with_reducible refine' x_en ?k1 ?_); (case k1 => walk_at "fact"))
  | ((with_reducible refine' x_tyL ?k1 ?_); (case k1 => walk_at "fact"))
  | with_reducible refine iteT ?_
  | with_reducible refine iteF ?_
  | with_reducible refine ifnT ?_
  | with_reducible refine ifnF ?_
  | (with_reducible refine x_r1 (by omega) ?_))
local macro_rules | `(tactic| walk_at "s1") => `(tactic| first | with_reducible refine x_seq ?_ | walk_at "s0")
local macro_rules | `(tactic| walk_at "e") => `(tactic| repeat (walk_at "s0"))
local macro_rules | `(tactic| walk_at "p") => `(tactic| repeat (walk_at "s1"))
local macro_rules | `(tactic| walk_at "s") => `(tactic| repeat (first | with_reducible refine x_if ?_ | walk_at "s1"))

/-! ### the law's own helpers: a draw, a base -/
abbrev s__law_draw : Stmt := topS 19
theorem sc__law_draw : FnScope ["_law_script", "_law_k"] ["_law_script", "_law_k"] (defScope s__law_draw) := ⟨rfl, rfl, rfl, by decide +kernel, rfl, by decide +kernel, by decide +kernel⟩
def spDraw (K : PySem.W.Frag) : Sp := fun vs H Q _ => ∃ (a : Addr) (ns : List Int) (k : Int), vs = [.ref a, .int k] ∧ SqL K H a (ns.map V.int) ∧ 0 ≤ k ∧ ∀ z : Int, RetV (.int z) H Q
theorem ok_law_draw {P : Program} {w : World} {K : PySem.W.Frag} {mg : Str → Option Value} {base : Heap} (D : Dfn K mg "_law_draw" s__law_draw) (m_len : mg "len" = none) : Cal P w K mg base CX0 "_law_draw" 1 ["_law_script", "_law_k"] (spDraw K) := by
  refine cal0 D sc__law_draw (fun _ _ _ _ _ _ us hl => match us, hl with | [_, _], _ => rfl) (fun vs H Q E h => ?_) (fun f cdv A outer s H vs Q E hr h => ?_)
  · obtain ⟨a, ns, k, rfl, _⟩ := h
    rfl
  obtain ⟨a, ns, ki, rfl, ha, hk, q⟩ := h
  obtain ⟨k, rfl⟩ : ∃ k : Nat, ki = (k : Int) := ⟨ki.toNat, by omega⟩
  refine ⟨_, (pss_one (ps_ret (pe_ifExp (pt_cmpR op_gt (pe_callB call_len1 (by rfl) m_len PySem.boot_len (pa_cons (pv 0) pa_nil)) (pv 1) (nomark _)) (pe_ix ix_list (pv 0) (pv 1) (fun _ _ => rfl)) pe_int))), ?_⟩
  show tRet _ _ [some (.ref a), some (.int (k : Int))] H
  walk_at "s"
  rw [List.length_map]
  refine if2 (fun h1 => ?_) (fun h1 => ?_)
  · have h2 : (k : Int) < (ns.length : Int) := of_decide_eq_true h1
    walk_at "s"
    refine x_ixS (v := .int (ns[k]'(by omega))) ha (atI_nat (by rw [List.getElem?_map, List.getElem?_eq_getElem (by omega)]; rfl)) ?_
    exact q _ H (Same.refl H)
  · walk_at "s"
    exact q _ H (Same.refl H)
abbrev s__law_base_by : Stmt := topS 20
theorem sc__law_base_by : FnScope ["_law_cell"] ["_law_cell"] (defScope s__law_base_by) := ⟨rfl, rfl, rfl, by decide +kernel, rfl, by decide +kernel, by decide +kernel⟩
def spBaseBy : Sp := fun vs H Q _ => ∃ (z : Int), vs = [.int z] ∧ ∀ b : Nat, (2 ≤ b ∧ b ≤ 1000000) → RetV (.int (b : Int)) H Q
theorem ok_law_base_by {P : Program} {w : World} {K : PySem.W.Frag} {mg : Str → Option Value} {base : Heap} (D : Dfn K mg "_law_base_by" s__law_base_by) : Cal P w K mg base CX0 "_law_base_by" 1 ["_law_cell"] spBaseBy := by
  refine cal0 D sc__law_base_by (fun _ _ _ _ _ _ us hl => match us, hl with | [_], _ => rfl) (fun vs H Q E h => ?_) (fun f cdv A outer s H vs Q E hr h => ?_)
  · obtain ⟨a, rfl, _⟩ := h
    rfl
  obtain ⟨z, rfl, q⟩ := h
  have fin : ∀ i : Int, 2 ≤ i → i ≤ 1000000 → ∀ H', Same H H' → Q (.int i) H' := fun i h1 h2 H' s => by
    have := q i.toNat ⟨by omega, by omega⟩ H' s
    rw [Int.toNat_of_nonneg (by omega)] at this
    exact this
  refine ⟨_, (pss_cons (ps_if (pt_cmpR op_eq (pe_op op_mod (pv 0) pe_int) pe_int (nomark _)) (pss_one (ps_ret (pe_op op_add pe_int (pe_op op_mod (pe_op op_fdiv (pv 0) pe_int) pe_int)))) pss_nil)
      (pss_cons (ps_if (pt_cmpR op_eq (pe_op op_mod (pv 0) pe_int) pe_int (nomark _)) (pss_one (ps_ret (pe_ix ix_list (pe_lst (pa_cons pe_int (pa_cons pe_int (pa_cons pe_int (pa_cons pe_int (pa_cons pe_int (pa_cons pe_int pa_nil))))))) (pe_op op_mod (pe_op op_fdiv (pv 0) pe_int) pe_int) (fun _ _ => rfl)))) pss_nil)
      (pss_one (ps_ret (pe_op op_add pe_int (pe_op op_mod (pe_op op_fdiv (pv 0) pe_int) pe_int)))))), ?_⟩
  show tSeq _ _ _ [some (.int z)] H
  walk_at "s"
  refine x_I (by decide) ?_
  walk_at "s"
  refine if2 (fun h1 => ?_) (fun h1 => ?_)
  · walk_at "s"
    refine x_I ⟨by decide, by decide⟩ ?_
    walk_at "s"
    refine x_I (by decide) ?_
    walk_at "s"
    exact fin _ (by omega) (by omega) H (Same.refl H)
  · walk_at "s"
    refine x_I (by decide) ?_
    walk_at "s"
    refine if2 (fun h1 => ?_) (fun h1 => ?_)
    · walk_at "s"
      refine ⟨sz (by decide), fun d hd => ?_⟩
      walk_at "s"
      refine x_I ⟨by decide, by decide⟩ ?_
      walk_at "s"
      refine x_I (by decide) ?_
      have h2 : 0 ≤ z / 4 % 6 ∧ z / 4 % 6 < 6 := ⟨by omega, by omega⟩
      generalize z / 4 % 6 = k at *
      have h3 : k = 0 ∨ k = 1 ∨ k = 2 ∨ k = 3 ∨ k = 4 ∨ k = 5 := by omega
      rcases h3 with rfl | rfl | rfl | rfl | rfl | rfl
      · exact x_ix upd_same (atI_nat (j := 0) rfl) (fin _ (by omega) (by omega) _ (same_upd hd))
      · exact x_ix upd_same (atI_nat (j := 1) rfl) (fin _ (by omega) (by omega) _ (same_upd hd))
      · exact x_ix upd_same (atI_nat (j := 2) rfl) (fin _ (by omega) (by omega) _ (same_upd hd))
      · exact x_ix upd_same (atI_nat (j := 3) rfl) (fin _ (by omega) (by omega) _ (same_upd hd))
      · exact x_ix upd_same (atI_nat (j := 4) rfl) (fin _ (by omega) (by omega) _ (same_upd hd))
      · exact x_ix upd_same (atI_nat (j := 5) rfl) (fin _ (by omega) (by omega) _ (same_upd hd))
    · walk_at "s"
      refine x_I ⟨by decide, by decide⟩ ?_
      walk_at "s"
      refine x_I (by decide) ?_
      walk_at "s"
      exact fin _ (by omega) (by omega) H (Same.refl H)

/-! ### the law's own helpers: a row drawn, numbers, sameness -/
abbrev s__law_row_by : Stmt := topS 21
theorem sc__law_row_by : FnScope ["_law_script", "_law_k", "_law_base", "_law_most", "_law_size", "_law_way", "_law_left", "_law_row", "_law_j", "_law_figure"] ["_law_script", "_law_k", "_law_base", "_law_most"] (defScope s__law_row_by) := ⟨rfl, rfl, rfl, by decide +kernel, rfl, by decide +kernel, by decide +kernel⟩
def spRowBy (K : PySem.W.Frag) : Sp := fun vs H Q _ => ∃ (a : Addr) (ns : List Int) (k m : Int) (b : Nat), vs = [.ref a, .int k, .int (b : Int), .int m] ∧ SqL K H a (ns.map V.int) ∧ 0 ≤ k ∧ (2 ≤ b ∧ b ≤ 1000000) ∧ (1 ≤ m ∧ m ≤ 1000) ∧
  ∀ n, (digits b n).length ≤ max 8 (m.toNat - 1) → RetL (dig b n) H Q
theorem ok_law_row_by {P : Program} {w : World} {K : PySem.W.Frag} {mg : Str → Option Value} {base : Heap} (D : Dfn K mg "_law_row_by" s__law_row_by) (m_range : mg "range" = none) (m_int : mg "int" = none)
    (C__law_draw : Cal P w K mg base CX0 "_law_draw" 1 ["_law_script", "_law_k"] (spDraw K)) : Cal P w K mg base CX0 "_law_row_by" 2 ["_law_script", "_law_k", "_law_base", "_law_most"] (spRowBy K) := by
  refine cal0 D sc__law_row_by (fun _ _ _ _ _ _ us hl => match us, hl with | [_, _, _, _], _ => rfl) (fun vs H Q E h => ?_) (fun f cdv A outer s H vs Q E hr h => ?_)
  · obtain ⟨a, ns, k, b, m, rfl, _⟩ := h
    rfl
  obtain ⟨a, ns, ki, mi, b, rfl, ha, hk0, ⟨hb, hb6⟩, ⟨hm1, hm2⟩, q⟩ := h
  obtain ⟨k, rfl⟩ : ∃ k : Nat, ki = (k : Int) := ⟨ki.toNat, by omega⟩
  obtain ⟨m, rfl⟩ : ∃ m : Nat, mi = (m : Int) := ⟨mi.toNat, by omega⟩
  rw [Int.toNat_natCast] at q
  refine ⟨_, (pss_cons (ps_set (i := 4) sc__law_row_by.nd rfl (Or.inl rfl) (pe_op op_mod (pc C__law_draw hr (pa_cons (pv 0) (pa_cons (pv 1) pa_nil))) pe_int))
      (pss_cons (ps_if (pt_cmpR op_eq (pe_op op_mod (pe_op op_fdiv (pc C__law_draw hr (pa_cons (pv 0) (pa_cons (pv 1) pa_nil))) pe_int) pe_int) pe_int (nomark _)) (pss_one (ps_set (i := 4) sc__law_row_by.nd rfl (Or.inl rfl) (pe_op op_mod (pe_op op_fdiv (pc C__law_draw hr (pa_cons (pv 0) (pa_cons (pv 1) pa_nil))) pe_int) (pv 3)))) pss_nil)
      (pss_cons (ps_set (i := 5) sc__law_row_by.nd rfl (Or.inl rfl) (pe_op op_mod (pc C__law_draw hr (pa_cons (pv 0) (pa_cons (pe_op op_add (pv 1) pe_int) pa_nil))) pe_int))
      (pss_cons (ps_set (i := 6) sc__law_row_by.nd rfl (Or.inl rfl) (pe_op op_fdiv (pc C__law_draw hr (pa_cons (pv 0) (pa_cons (pe_op op_add (pv 1) pe_int) pa_nil))) pe_int))
      (pss_cons (ps_set (i := 7) sc__law_row_by.nd rfl (Or.inl rfl) (pe_lst pa_nil))
      (pss_cons (ps_for PassesOwn.never rfl (pi_range1 (by rfl) m_range (pa_cons (pv 4) pa_nil)) (pg_name (i := 8) sc__law_row_by.nd rfl (Or.inl rfl)) (pss_cons (ps_set (i := 9) sc__law_row_by.nd rfl (Or.inl rfl) (pe_op op_mod (pe_op op_add (pv 6) (pe_op op_mul (pe_op op_mul (pv 8) (pv 8)) pe_int)) (pv 2)))
      (pss_cons (ps_set (i := 6) sc__law_row_by.nd rfl (Or.inl rfl) (pe_op op_fdiv (pv 6) (pv 2)))
      (pss_cons (ps_if (pt_cmpR op_eq (pv 5) pe_int (nomark _)) (pss_one (ps_set (i := 9) sc__law_row_by.nd rfl (Or.inl rfl) (pe_op op_sub (pv 2) pe_int))) pss_nil)
      (pss_cons (ps_if (pt_cmpR op_eq (pv 5) pe_int (nomark _)) (pss_one (ps_set (i := 9) sc__law_row_by.nd rfl (Or.inl rfl) (pe_callTy call_int1 (by rfl) m_int (by decide +kernel) (pa_cons (pe_cmpR op_eq (pv 8) (pe_op op_sub (pv 4) pe_int) (nomark _)) pa_nil)))) pss_nil)
      (pss_cons (ps_if (PW.pt (pw_and (pt_cmpR op_eq (pv 5) pe_int (nomark _)) (pw_and1 (pt_cmpR op_eq (pe_op op_mod (pv 8) pe_int) pe_int (nomark _))))) (pss_one (ps_set (i := 9) sc__law_row_by.nd rfl (Or.inl rfl) pe_int)) pss_nil)
      (pss_one (ps_expr (pe_bm PySem.F.plainAttrs_list PySem.F.slot_list_append PySem.F.type_list_append mt_append (pv 7) (pa_cons (pv 9) pa_nil))))))))))
      (pss_cons (ps_while PassesOwn.never (PW.pt (pw_and (pt_cmpR (op_neD hr.units) (pv 7) (pe_lst pa_nil) (nomark _)) (pw_and1 (pt_cmpR op_eq (pe_ix ix_list (pv 7) (pe_un un_neg pe_int) (fun _ _ => rfl)) pe_int (nomark _))))) (pss_one (ps_set (i := 7) sc__law_row_by.nd rfl (Or.inl rfl) (pe_slice sl_list (pv 7) po_none (po_some (pe_un un_neg pe_int))))))
      (pss_one (ps_ret (pv 7)))))))))), ?_⟩
  show tSeq _ _ _ [some (.ref a), some (.int (k : Int)), some (.int (b : Int)), some (.int (m : Int)), none, none, none, none, none, none] H
  have T := Trk.nil H
  walk_at "p"
  refine ⟨_, ns, _, rfl, ha, by omega, fun z1 H1 s1 => ?_⟩
  have T := T.call s1
  walk_at "p"
  refine x_I (by decide) ?_
  walk_at "p"
  -- the size
  refine x_ifJ 4 (fun v => ∃ z : Nat, v = .int (z : Int) ∧ z ≤ max 8 (m - 1)) ?_ ?_
  rotate_left
  · intro R hk
    walk_at "s"
    refine ⟨_, ns, _, rfl, T.sq ha, by omega, fun z2 H2 s2 => ?_⟩
    have T := T.call s2
    walk_at "s"
    refine x_I ⟨by decide, by decide⟩ ?_
    walk_at "s"
    refine x_I (by decide) ?_
    walk_at "s"
    refine if2 (fun h1 => ?_) (fun h1 => ?_)
    · walk_at "s"
      refine ⟨_, ns, _, rfl, T.sq ha, by omega, fun z3 H3 s3 => ?_⟩
      walk_at "s"
      refine x_I ⟨by decide, by decide⟩ ?_
      walk_at "s"
      refine x_I (by omega) ?_
      walk_at "s"
      have e1 := Int.emod_nonneg (z3 / 36) (b := (m : Int)) (by omega)
      have e2 := Int.emod_lt_of_pos (z3 / 36) (b := (m : Int)) (by omega)
      exact hk _ _ (s2.trans s3) ⟨(z3 / 36 % (m : Int)).toNat, by rw [Int.toNat_of_nonneg e1], by omega⟩
    · walk_at "s"
      exact hk (.int (z1 % 9)) _ s2 ⟨(z1 % 9).toNat, by rw [Int.toNat_of_nonneg (by omega)], by omega⟩
  rintro v H2 s2 ⟨sz, rfl, hsz⟩
  have T := T.call s2
  dsimp only [List.set_cons_zero, List.set_cons_succ]
  walk_at "p"
  refine ⟨_, ns, _, rfl, T.sq ha, by omega, fun z4 H4 s4 => ?_⟩
  have T := T.call s4
  walk_at "p"
  refine x_I (by decide) ?_
  walk_at "p"
  refine ⟨_, ns, _, rfl, T.sq ha, by omega, fun z5 H5 s5 => ?_⟩
  have T := T.call s5
  walk_at "p"
  refine x_I ⟨by decide, by decide⟩ ?_
  walk_at "p"
  refine ⟨Nat.zero_le _, fun d hd => ?_⟩
  have T := T.lay (o := .lst []) hd
  walk_at "p"
  generalize z4 % 5 = way
  generalize z5 / 5 = left
  rw [Int.toNat_natCast]
  have hz : sz ≤ 1000 := by omega
  refine for_range (fun i σ' H' => ∃ (acc : List Nat) (left : Int) (y z : Option V), σ' = [some (.ref a), some (.int (k : Int)), some (.int (b : Int)), some (.int (m : Int)), some (.int (sz : Int)), some (.int way), some (.int left), some (.ref d), y, z] ∧ AllLt b acc ∧ acc.length = i ∧ Trk H H' [(d, .lst (iv acc))])
    ⟨[], left, none, none, rfl, AllLt.nil, rfl, T⟩ ?_ ?_
  · rintro i σ' H' hi ⟨acc, left, y, z, rfl, hlt, hlen, T⟩
    rw [Int.zero_add]
    walk_at "p"
    refine x_I (Or.inl ⟨by omega, by omega⟩) ?_
    walk_at "p"
    refine x_I (Or.inr ⟨by decide, by decide⟩) ?_
    walk_at "p"
    refine x_I (by omega) ?_
    walk_at "p"
    refine x_I ⟨by omega, by omega⟩ ?_
    walk_at "p"
    have g : ∃ u : Nat, (left + (i : Int) * (i : Int) * 48271) % (b : Int) = (u : Int) ∧ u < b := by
      have e1 := Int.emod_nonneg (left + (i : Int) * (i : Int) * 48271) (b := (b : Int)) (by omega)
      have e2 := Int.emod_lt_of_pos (left + (i : Int) * (i : Int) * 48271) (b := (b : Int)) (by omega)
      exact ⟨((left + (i : Int) * (i : Int) * 48271) % (b : Int)).toNat, by omega, by omega⟩
    obtain ⟨u, hu, hub⟩ := g
    rw [hu]
    refine x_ifJ 9 (fun v => ∃ z : Nat, v = .int (z : Int) ∧ z < b) ?_ ?_
    rotate_left
    · intro R hk
      walk_at "s"
      refine if2 (fun h1 => ?_) (fun h1 => ?_)
      · walk_at "s"
        exact hk _ _ (Same.refl _) ⟨b - 1, by congr 1; omega, by omega⟩
      · walk_at "s"
        exact hk (.int (u : Int)) _ (Same.refl _) ⟨u, rfl, hub⟩
    rintro v H6 s6 ⟨u2, rfl, hub2⟩
    have T := T.call s6
    dsimp only [List.set_cons_zero, List.set_cons_succ]
    walk_at "p"
    refine x_ifJ 9 (fun v => ∃ z : Nat, v = .int (z : Int) ∧ z < b) ?_ ?_
    rotate_left
    · intro R hk
      walk_at "s"
      refine if2 (fun h1 => ?_) (fun h1 => ?_)
      · walk_at "s"
        refine Or.inr ⟨_, rfl, ?_⟩
        walk_at "s"
        refine hk _ _ (Same.refl _) ?_
        by_cases hj : (i : Int) = (sz : Int) - 1
        · exact ⟨1, by rw [decide_eq_true hj]; rfl, by omega⟩
        · exact ⟨0, by rw [decide_eq_false hj]; rfl, by omega⟩
      · walk_at "s"
        exact hk (.int (u2 : Int)) _ (Same.refl _) ⟨u2, rfl, hub2⟩
    rintro v H7 s7 ⟨u3, rfl, hub3⟩
    have T := T.call s7
    dsimp only [List.set_cons_zero, List.set_cons_succ]
    walk_at "p"
    refine x_ifJ 9 (fun v => ∃ z : Nat, v = .int (z : Int) ∧ z < b) ?_ ?_
    rotate_left
    · intro R hk
      walk_at "s"
      refine if2 (fun h1 => ?_) (fun h1 => ?_)
      · walk_at "s"
        refine x_I (by decide) ?_
        walk_at "s"
        refine if2 (fun h1 => ?_) (fun h1 => ?_)
        · walk_at "s"
          exact hk _ _ (Same.refl _) ⟨0, rfl, by omega⟩
        · walk_at "s"
          exact hk (.int (u3 : Int)) _ (Same.refl _) ⟨u3, rfl, hub3⟩
      · walk_at "s"
        exact hk (.int (u3 : Int)) _ (Same.refl _) ⟨u3, rfl, hub3⟩
    rintro v H8 s8 ⟨u4, rfl, hub4⟩
    have T := T.call s8
    dsimp only [List.set_cons_zero, List.set_cons_succ]
    walk_at "p"
    refine x_app (by walk_at "fact") (by rw [iv_length]; omega) ?_
    have T := T.mut 0 rfl (o' := .lst (iv acc ++ [V.int (u4 : Int)]))
    rw [← iv_snoc] at T ⊢
    refine ⟨acc ++ [u4], _, _, _, rfl, hlt.append (AllLt.one hub4), ?_, T⟩
    rw [List.length_append, hlen]
    rfl
  · rintro σ' H' ⟨acc, left, y, z, rfl, hlt, hlen, T⟩
    have q := q (val b acc) (by
      rw [digits_val hb hlt]
      have := trim_length_le acc
      omega)
    unfold dig at q
    rw [digits_val hb hlt] at q
    walk_at "p"
    refine x_while (fun mm σ' H' => ∃ (d' : Addr) (r : List Nat), σ' = [some (.ref a), some (.int (k : Int)), some (.int (b : Int)), some (.int (m : Int)), some (.int (sz : Int)), some (.int way), some (.int left), some (.ref d'), y, z] ∧ r.length = mm ∧ r.length ≤ 1000 ∧ trim r = trim acc ∧ Trk H H' [(d', .lst (iv r))]) acc.length
      ⟨d, acc, rfl, rfl, by omega, rfl, T⟩ ?_
    rintro mm σ' H' ⟨d', r, rfl, hrl, hr1, hrt, T⟩
    walk_at "s"
    refine ⟨Nat.zero_le _, fun e he => ?_⟩
    have T := T.lay (o := .lst []) he
    refine x_neL (l := r) (m := []) (by walk_at "fact") (by walk_at "fact") ?_
    walk_at "s"
    by_cases hr0 : r = []
    · subst hr0
      refine ifF rfl ?_
      walk_at "s"
      refine q.go T 1 ?_
      rw [← hrt]
      rfl
    · obtain ⟨r', x, rfl⟩ : ∃ r' x, r = r' ++ [x] := ⟨r.dropLast, r.getLast hr0, (List.dropLast_concat_getLast hr0).symm⟩
      refine ifT (by rw [decide_eq_false hr0]; rfl) ?_
      walk_at "s"
      refine x_ix (v := .int (x : Int)) (by walk_at "fact") (by rw [iv_snoc]; exact atI_last _ _) ?_
      walk_at "s"
      by_cases hx : x = 0
      · subst hx
        refine ifT rfl ?_
        refine x_turn ?_
        walk_at "s"
        refine x_cut (xs := iv (r' ++ [0])) (by walk_at "fact") fun d2 hd2 => ?_
        have T := T.lay (o := .lst (cutV (iv (r' ++ [0])) none (some (-1)))) hd2
        have ec : cutV (iv (r' ++ [0])) none (some (-1)) = iv r' := by
          rw [iv_snoc]
          exact cut_last
        rw [ec] at T ⊢
        walk_at "s"
        rw [List.length_append] at hrl hr1
        refine ⟨r'.length, by rw [← hrl]; exact Nat.lt_succ_self _, d2, r', rfl, rfl, by omega, ?_, T.take 1⟩
        rw [trim_snoc_zero] at hrt
        exact hrt
      · refine ifF (decide_eq_false (by omega)) ?_
        walk_at "s"
        refine q.go T 1 ?_
        rw [← hrt, trim_snoc_pos hx]
        rfl

abbrev s__law_is_number : Stmt := topS 22
theorem sc__law_is_number : FnScope ["_law_found"] ["_law_found"] (defScope s__law_is_number) := ⟨rfl, rfl, rfl, by decide +kernel, rfl, by decide +kernel, by decide +kernel⟩
def spIsNumber : Sp := fun vs H Q _ => ∃ (i : Int), vs = [.int i] ∧ RetV (.bl true) H Q
theorem ok_law_is_number {P : Program} {w : World} {K : PySem.W.Frag} {mg : Str → Option Value} {base : Heap} (D : Dfn K mg "_law_is_number" s__law_is_number) (m_isinstance : mg "isinstance" = none) (m_int : mg "int" = none) : Cal P w K mg base CX0 "_law_is_number" 1 ["_law_found"] spIsNumber := by
  refine cal0 D sc__law_is_number (fun _ _ _ _ _ _ us hl => match us, hl with | [_], _ => rfl) (fun vs H Q E h => ?_) (fun f cdv A outer s H vs Q E hr h => ?_)
  · obtain ⟨i, rfl, _⟩ := h
    rfl
  obtain ⟨i, rfl, q⟩ := h
  refine ⟨_, (pss_cons (ps_if (PW.pt (pw_or (pt_cmpR op_isG (pv 0) pe_bl (nomark _)) (pw_or1 (pt_cmpR op_isG (pv 0) pe_bl (nomark _))))) (pss_one (ps_ret pe_bl)) pss_nil)
      (pss_one (ps_ret (pe_callB call_isi (by rfl) m_isinstance (by decide +kernel) (pa_cons (pv 0) (pa_cons (pe_bltn (v := .ty "int") (by rfl) m_int (by decide +kernel) rfl) pa_nil)))))), ?_⟩
  show tSeq _ _ _ [some (.int i)] H
  walk_at "s"
  refine ifF rfl ?_
  walk_at "s"
  refine ifF rfl ?_
  walk_at "s"
  refine x_isiI ?_
  exact q H (Same.refl H)

abbrev s__law_same : Stmt := topS 23
theorem sc__law_same : FnScope ["_law_found", "_law_due", "_law_k"] ["_law_found", "_law_due"] (defScope s__law_same) := ⟨rfl, rfl, rfl, by decide +kernel, rfl, by decide +kernel, by decide +kernel⟩
def spSame : Sp := fun vs H Q _ => ∃ (a c : Addr) (l : List Nat), vs = [.ref a, .ref c] ∧ H a = some (.lst (iv l)) ∧ H c = some (.lst (iv l)) ∧ l.length ≤ 100000 ∧ RetV (.bl true) H Q
theorem ok_law_same {P : Program} {w : World} {K : PySem.W.Frag} {mg : Str → Option Value} {base : Heap} (D : Dfn K mg "_law_same" s__law_same) (m_isinstance : mg "isinstance" = none) (m_list : mg "list" = none) (m_len : mg "len" = none) (m_range : mg "range" = none)
    (C__law_is_number : Cal P w K mg base CX0 "_law_is_number" 1 ["_law_found"] spIsNumber) : Cal P w K mg base CX0 "_law_same" 2 (["_law_found", "_law_due"]) spSame := by
  refine cal0 D sc__law_same (fun _ _ _ _ _ _ us hl => match us, hl with | [_, _], _ => rfl) (fun vs H Q E h => ?_) (fun f cdv A outer s H vs Q E hr h => ?_)
  · obtain ⟨a, c, l, rfl, _⟩ := h
    rfl
  obtain ⟨a, c, l, rfl, ha, hc, hl, q⟩ := h
  refine ⟨_, (pss_cons (ps_if (PW.pt (pw_or (pt_not (pt_val (pe_callB call_isi (by rfl) m_isinstance (by decide +kernel) (pa_cons (pv 0) (pa_cons (pe_bltn (v := .ty "list") (by rfl) m_list (by decide +kernel) rfl) pa_nil))))) (pw_or1 (pt_cmpR op_ne (pe_callB call_len1 (by rfl) m_len PySem.boot_len (pa_cons (pv 0) pa_nil)) (pe_callB call_len1 (by rfl) m_len PySem.boot_len (pa_cons (pv 1) pa_nil)) (nomark _))))) (pss_one (ps_ret pe_bl)) pss_nil)
      (pss_cons (ps_for PassesOwn.never rfl (pi_range1 (by rfl) m_range (pa_cons (pe_callB call_len1 (by rfl) m_len PySem.boot_len (pa_cons (pv 1) pa_nil)) pa_nil)) (pg_name (i := 2) sc__law_same.nd rfl (Or.inl rfl)) (pss_one (ps_if (PW.pt (pw_or (pt_not (pt_val (pc C__law_is_number hr (pa_cons (pe_ix ix_list (pv 0) (pv 2) (fun _ _ => rfl)) pa_nil)))) (pw_or1 (pt_cmpR op_ne (pe_ix ix_list (pv 0) (pv 2) (fun _ _ => rfl)) (pe_ix ix_list (pv 1) (pv 2) (fun _ _ => rfl)) (nomark _))))) (pss_one (ps_ret pe_bl)) pss_nil)))
      (pss_one (ps_ret pe_bl)))), ?_⟩
  show tSeq _ _ _ [some (.ref a), some (.ref c), none] H
  walk_at "s"
  refine x_isiL ha ?_
  walk_at "s"
  rw [decide_eq_true rfl]
  walk_at "s"
  rw [iv_length]
  refine x_r1 (by omega) ?_
  rw [Int.toNat_natCast]
  refine for_range (fun i σ' H' => (∃ y, σ' = [some (.ref a), some (.ref c), y]) ∧ Trk H H' []) ⟨⟨none, rfl⟩, Trk.nil H⟩ ?_ ?_
  · rintro i σ' H' hi ⟨⟨y, rfl⟩, T⟩
    rw [Int.zero_add]
    have g := iv_get (List.getElem?_eq_getElem hi)
    walk_at "s"
    refine x_ix (T.up ha) (atI_nat g) ?_
    walk_at "s"
    refine ⟨_, rfl, fun H1 s1 => ?_⟩
    have T := T.call s1
    walk_at "s"
    refine x_ix (T.up ha) (atI_nat g) ?_
    walk_at "s"
    refine x_ix (T.up hc) (atI_nat g) ?_
    walk_at "s"
    rw [decide_eq_true rfl]
    walk_at "s"
    exact ⟨⟨_, rfl⟩, T⟩
  · rintro σ' H' ⟨⟨y, rfl⟩, T⟩
    walk_at "s"
    exact q.go T

/-! ### is_whole -/
abbrev s_is_whole : Stmt := topS 7
theorem sc_is_whole : FnScope ["thing"] ["thing"] (defScope s_is_whole) := ⟨rfl, rfl, rfl, by decide +kernel, rfl, by decide +kernel, by decide +kernel⟩
def spIsWhole : Sp := fun vs H Q _ => ∃ (x : V) (o : Option Int), vs = [x] ∧ Kd H x o ∧ RetV (.bl o.isSome) H Q
theorem ok_is_whole {P : Program} {w : World} {K : PySem.W.Frag} {mg : Str → Option Value} {base : Heap} (D : Dfn K mg "is_whole" s_is_whole) (m_isinstance : mg "isinstance" = none) (m_int : mg "int" = none) (m_bool : mg "bool" = none) : Cal P w K mg base CX0 "is_whole" 1 ["thing"] spIsWhole := by
  refine cal0 D sc_is_whole (fun _ _ _ _ _ _ us hl => match us, hl with | [_], _ => rfl) (fun vs H Q E h => ?_) (fun f cdv A outer s H vs Q E hr h => ?_)
  · obtain ⟨x, o, rfl, _⟩ := h
    rfl
  obtain ⟨x, o, rfl, hk, q⟩ := h
  obtain ⟨t, ty, hc⟩ := hk.ty (K := K)
  refine ⟨_, (pss_one (ps_ret (pe_and (pe_callB call_isi (by rfl) m_isinstance (by decide +kernel) (pa_cons (pv 0) (pa_cons (pe_bltn (v := .ty "int") (by rfl) m_int (by decide +kernel) rfl) pa_nil))) (pe_one (pe_not (pe_callB call_isi (by rfl) m_isinstance (by decide +kernel) (pa_cons (pv 0) (pa_cons (pe_bltn (v := .ty "bool") (by rfl) m_bool (by decide +kernel) rfl) pa_nil)))))))), ?_⟩
  show tRet _ _ [some x] H
  walk_at "s"
  rcases hc with ⟨e, h1, h2⟩ | ⟨e, h1⟩ | ⟨e, h1, h2⟩
  · refine x_isi ty h1 ?_
    walk_at "s"
    refine x_isi ty h2 ?_
    walk_at "s"
    rw [e] at q
    exact q H (Same.refl H)
  · refine x_isi ty h1 ?_
    walk_at "s"
    rw [e] at q
    exact q H (Same.refl H)
  · refine x_isi ty h1 ?_
    walk_at "s"
    refine x_isi ty h2 ?_
    walk_at "s"
    rw [e] at q
    exact q H (Same.refl H)
/-! ### is_base -/
abbrev s_is_base : Stmt := topS 8
theorem sc_is_base : FnScope ["base"] ["base"] (defScope s_is_base) := ⟨rfl, rfl, rfl, by decide +kernel, rfl, by decide +kernel, by decide +kernel⟩
def isB (o : Option Int) : Bool := match o with
  | some i => decide (2 ≤ i) && decide (i ≤ 1000000)
  | none => false
def spIsBase : Sp := fun vs H Q _ => ∃ (x : V) (o : Option Int), vs = [x] ∧ Kd H x o ∧ RetV (.bl (isB o)) H Q
theorem Kd.some_int {H : Hp} {x : V} {i : Int} (k : Kd H x (some i)) : x = .int i := by
  cases k
  rfl
theorem ok_is_base {P : Program} {w : World} {K : PySem.W.Frag} {mg : Str → Option Value} {base : Heap} (D : Dfn K mg "is_base" s_is_base) (gc_LEAST_BASE : ∃ t, mg "LEAST_BASE" = some (.int 2 t)) (gc_MOST_BASE : ∃ t, mg "MOST_BASE" = some (.int 1000000 t))
    (C_is_whole : Cal P w K mg base CX0 "is_whole" 1 ["thing"] spIsWhole) : Cal P w K mg base CX0 "is_base" 2 ["base"] spIsBase := by
  refine cal0 D sc_is_base (fun _ _ _ _ _ _ us hl => match us, hl with | [_], _ => rfl) (fun vs H Q E h => ?_) (fun f cdv A outer s H vs Q E hr h => ?_)
  · obtain ⟨x, o, rfl, _⟩ := h
    rfl
  obtain ⟨x, o, rfl, hk, q⟩ := h
  obtain ⟨t1, g1⟩ := gc_LEAST_BASE
  obtain ⟨t2, g2⟩ := gc_MOST_BASE
  refine ⟨_, (pss_one (ps_ret (pe_and (pc C_is_whole hr (pa_cons (pv 0) pa_nil)) (pe_one (pe_chain op_le op_le (pe_glob (v := .int 2) (by rfl) g1 ⟨_, rfl⟩) (pv 0) (pe_glob (v := .int 1000000) (by rfl) g2 ⟨_, rfl⟩)))))), ?_⟩
  show tRet _ _ [some x] H
  walk_at "s"
  refine ⟨_, _, rfl, hk, fun H1 s1 => ?_⟩
  cases o with
  | none =>
    walk_at "s"
    exact q _ s1
  | some i =>
    cases hk.some_int
    walk_at "s"
    refine ifT rfl ?_
    walk_at "s"
    have q1 := q H1 s1
    have q2 : Q (.bl (decide (2 ≤ i) && decide (i ≤ 1000000))) H1 := q1
    refine if2 (fun h1 => ?_) (fun h1 => ?_)
    · rw [h1, Bool.true_and] at q2
      walk_at "s"
      exact q2
    · rw [h1, Bool.false_and] at q2
      exact q2
/-! ### need_base, of a good base -/
abbrev s_need_base : Stmt := topS 9
theorem sc_need_base : FnScope ["base"] ["base"] (defScope s_need_base) := ⟨rfl, rfl, rfl, by decide +kernel, rfl, by decide +kernel, by decide +kernel⟩
theorem isB_nat {b : Nat} (hb : 2 ≤ b ∧ b ≤ 1000000) : isB (some (b : Int)) = true := by
  show (decide (2 ≤ (b : Int)) && decide ((b : Int) ≤ 1000000)) = true
  rw [decide_eq_true (by omega), decide_eq_true (by omega)]
  rfl
def spNeedBase : Sp := fun vs H Q _ => ∃ (b : Nat), vs = [.int (b : Int)] ∧ (2 ≤ b ∧ b ≤ 1000000) ∧ RetV .non H Q
theorem ok_need_base {P : Program} {w : World} {K : PySem.W.Frag} {mg : Str → Option Value} {base : Heap} (D : Dfn K mg "need_base" s_need_base) (C_is_base : Cal P w K mg base CX0 "is_base" 2 ["base"] spIsBase) : Cal P w K mg base CX0 "need_base" 3 ["base"] spNeedBase := by
  refine cal0 D sc_need_base (fun _ _ _ _ _ _ us hl => match us, hl with | [_], _ => rfl) (fun vs H Q E h => ?_) (fun f cdv A outer s H vs Q E hr h => ?_)
  · obtain ⟨x, rfl, _⟩ := h
    rfl
  obtain ⟨b, rfl, hb, q⟩ := h
  refine ⟨_, (pss_one (ps_if (pt_not (pt_val (pc C_is_base hr (pa_cons (pv 0) pa_nil)))) (pss_one ps_never) pss_nil)), ?_⟩
  show tIfS _ _ _ _ [some (.int (b : Int))] H
  walk_at "s"
  refine ⟨_, _, rfl, .int _, fun H1 s1 => ?_⟩
  rw [isB_nat hb]
  walk_at "s"
  exact q _ s1
/-! ### is_figure -/
abbrev s_is_figure : Stmt := topS 10
theorem sc_is_figure : FnScope ["base", "figure"] ["base", "figure"] (defScope s_is_figure) := ⟨rfl, rfl, rfl, by decide +kernel, rfl, by decide +kernel, by decide +kernel⟩
def figB (b : Nat) (o : Option Int) : Bool := match o with
  | some i => decide (0 ≤ i) && decide (i < (b : Int))
  | none => false
def spIsFigure : Sp := fun vs H Q _ => ∃ (b : Nat) (x : V) (o : Option Int), vs = [.int (b : Int), x] ∧ (2 ≤ b ∧ b ≤ 1000000) ∧ Kd H x o ∧ RetV (.bl (figB b o)) H Q
theorem ok_is_figure {P : Program} {w : World} {K : PySem.W.Frag} {mg : Str → Option Value} {base : Heap} (D : Dfn K mg "is_figure" s_is_figure)
    (C_is_whole : Cal P w K mg base CX0 "is_whole" 1 ["thing"] spIsWhole) (C_need_base : Cal P w K mg base CX0 "need_base" 3 ["base"] spNeedBase) : Cal P w K mg base CX0 "is_figure" 4 ["base", "figure"] spIsFigure := by
  refine cal0 D sc_is_figure (fun _ _ _ _ _ _ us hl => match us, hl with | [_, _], _ => rfl) (fun vs H Q E h => ?_) (fun f cdv A outer s H vs Q E hr h => ?_)
  · obtain ⟨b, x, o, rfl, _⟩ := h
    rfl
  obtain ⟨b, x, o, rfl, hb, hk, q⟩ := h
  refine ⟨_, (pss_cons (ps_expr (pc C_need_base hr (pa_cons (pv 0) pa_nil)))
      (pss_one (ps_ret (pe_and (pc C_is_whole hr (pa_cons (pv 1) pa_nil)) (pe_one (pe_chain op_le op_lt pe_int (pv 1) (pv 0))))))), ?_⟩
  show tSeq _ _ _ [some (.int (b : Int)), some x] H
  walk_at "s"
  refine ⟨_, rfl, hb, fun H1 s1 => ?_⟩
  walk_at "s"
  refine ⟨_, _, rfl, hk.mono s1, fun H2 s2 => ?_⟩
  cases o with
  | none =>
    walk_at "s"
    exact q _ (s1.trans s2)
  | some i =>
    cases hk.some_int
    walk_at "s"
    refine ifT rfl ?_
    walk_at "s"
    have q1 := q H2 (s1.trans s2)
    have q2 : Q (.bl (decide (0 ≤ i) && decide (i < (b : Int)))) H2 := q1
    refine if2 (fun h1 => ?_) (fun h1 => ?_)
    · rw [h1, Bool.true_and] at q2
      walk_at "s"
      exact q2
    · rw [h1, Bool.false_and] at q2
      exact q2
/-! ### is_row -/
abbrev s_is_row : Stmt := topS 11
theorem sc_is_row : FnScope ["base", "row", "figure"] ["base", "row"] (defScope s_is_row) := ⟨rfl, rfl, rfl, by decide +kernel, rfl, by decide +kernel, by decide +kernel⟩
def rowB (b : Nat) (ks : List (Option Int)) : Bool := ks.all (figB b) && (match ks.getLast? with
  | none => true
  | some o => !decide (o = some 0))
def RowK (H : Hp) (b : Nat) (x : V) (r : Bool) : Prop := (∃ (a : Addr) (xs : List V) (ks : List (Option Int)), x = .ref a ∧ H a = some (.lst xs) ∧ Paired (Kd H) xs ks ∧ ks.length ≤ 50000 ∧ r = rowB b ks) ∨ (NoL H x ∧ r = false)
def spIsRow : Sp := fun vs H Q _ => ∃ (b : Nat) (x : V) (r : Bool), vs = [.int (b : Int), x] ∧ (2 ≤ b ∧ b ≤ 1000000) ∧ RowK H b x r ∧ RetV (.bl r) H Q
theorem paired_mono {H H' : Hp} (s : Same H H') : ∀ {xs : List V} {ks : List (Option Int)}, Paired (Kd H) xs ks → Paired (Kd H') xs ks
  | _, _, .nil => .nil
  | _, _, .cons r t => .cons (r.mono s) (paired_mono s t)
theorem paired_get {H : Hp} : ∀ {xs : List V} {ks : List (Option Int)} {i : Nat} {x : V}, Paired (Kd H) xs ks → xs[i]? = some x → ∃ o, ks[i]? = some o ∧ Kd H x o
  | _, _, _, _, .nil, e => by simp at e
  | _, _, 0, x, .cons r t, e => ⟨_, rfl, by
    have e1 := Option.some.inj e
    rw [← e1]
    exact r⟩
  | _, _, i + 1, x, .cons r t, e => by
    rw [List.getElem?_cons_succ] at e ⊢
    exact paired_get t e
theorem paired_len {H : Hp} : ∀ {xs : List V} {ks : List (Option Int)}, Paired (Kd H) xs ks → xs.length = ks.length
  | _, _, .nil => rfl
  | _, _, .cons r t => by rw [List.length_cons, List.length_cons, paired_len t]
/-- when all are figures, the list is one of numbers -/
theorem paired_figs {H : Hp} {b : Nat} : ∀ {xs : List V} {ks : List (Option Int)}, Paired (Kd H) xs ks → ks.all (figB b) = true → ∃ l : List Nat, xs = iv l ∧ ks = l.map fun (n : Nat) => some (n : Int)
  | _, _, .nil, _ => ⟨[], rfl, rfl⟩
  | _, _, .cons (b := o) r t, h => by
    rw [List.all_cons, Bool.and_eq_true] at h
    obtain ⟨l, e1, e2⟩ := paired_figs t h.2
    cases o with
    | none => exact absurd (show false = true from h.1) Bool.false_ne_true
    | some i =>
      have h1 : (decide (0 ≤ i) && decide (i < (b : Int))) = true := h.1
      rw [Bool.and_eq_true] at h1
      have h2 : 0 ≤ i := of_decide_eq_true h1.1
      refine ⟨i.toNat :: l, ?_, ?_⟩
      · rw [r.some_int, e1]
        show _ = V.int (i.toNat : Int) :: iv l
        rw [Int.toNat_of_nonneg h2]
      · rw [e2, List.map_cons, Int.toNat_of_nonneg h2]
theorem rowB_iv {b : Nat} {l : List Nat} (h : (l.map fun (n : Nat) => some (n : Int)).all (figB b) = true) : rowB b (l.map fun (n : Nat) => some (n : Int)) = (match l.getLast? with
    | none => true
    | some x => !decide ((x : Int) = 0)) := by
  unfold rowB
  rw [h, Bool.true_and, List.getLast?_map]
  cases l.getLast? with
  | none => rfl
  | some x =>
    show (!decide (some (x : Int) = some 0)) = _
    congr 1
    by_cases z : (x : Int) = 0
    · rw [decide_eq_true z, decide_eq_true (by rw [z])]
    · rw [decide_eq_false z, decide_eq_false (fun q => z (Option.some.inj q))]
theorem ok_is_row {P : Program} {w : World} {K : PySem.W.Frag} {mg : Str → Option Value} {base : Heap} (D : Dfn K mg "is_row" s_is_row) (m_isinstance : mg "isinstance" = none) (m_list : mg "list" = none)
    (C_need_base : Cal P w K mg base CX0 "need_base" 3 ["base"] spNeedBase) (C_is_figure : Cal P w K mg base CX0 "is_figure" 4 ["base", "figure"] spIsFigure) : Cal P w K mg base CX0 "is_row" 5 ["base", "row"] spIsRow := by
  refine cal0 D sc_is_row (fun _ _ _ _ _ _ us hl => match us, hl with | [_, _], _ => rfl) (fun vs H Q E h => ?_) (fun f cdv A outer s H vs Q E hr h => ?_)
  · obtain ⟨b, x, r, rfl, _⟩ := h
    rfl
  obtain ⟨b, x, r, rfl, hb, hk, q⟩ := h
  refine ⟨_, (pss_cons (ps_expr (pc C_need_base hr (pa_cons (pv 0) pa_nil)))
      (pss_cons (ps_if (pt_not (pt_val (pe_callB call_isi (by rfl) m_isinstance (by decide +kernel) (pa_cons (pv 1) (pa_cons (pe_bltn (v := .ty "list") (by rfl) m_list (by decide +kernel) rfl) pa_nil))))) (pss_one (ps_ret pe_bl)) pss_nil)
      (pss_cons (ps_for PassesOwn.never rfl (pi_list (pv 1)) (pg_name (i := 2) sc_is_row.nd rfl (Or.inl rfl)) (pss_one (ps_if (pt_not (pt_val (pc C_is_figure hr (pa_cons (pv 0) (pa_cons (pv 2) pa_nil))))) (pss_one (ps_ret pe_bl)) pss_nil)))
      (pss_one (ps_ret (pe_or (pe_cmpR (op_eqD hr.units) (pv 1) (pe_lst pa_nil) (nomark _)) (pe_one (pe_cmpR op_ne (pe_ix ix_list (pv 1) (pe_un un_neg pe_int) (fun _ _ => rfl)) pe_int (nomark _))))))))), ?_⟩
  show tSeq _ _ _ [some (.int (b : Int)), some x, none] H
  walk_at "s"
  refine ⟨_, rfl, hb, fun H1 s1 => ?_⟩
  walk_at "s"
  rcases hk with ⟨a, xs, ks, rfl, ha, hp, hl, rfl⟩ | ⟨hn, rfl⟩
  · have T := (Trk.nil H).call s1
    refine x_isiL (T.up ha) ?_
    walk_at "s"
    refine for_list (xs := xs) (fun i σ' H' => (∃ y, σ' = [some (.int (b : Int)), some (.ref a), y]) ∧ Trk H H' [] ∧ (ks.take i).all (figB b) = true) ⟨⟨none, rfl⟩, T, by rw [List.take_zero]; rfl⟩ ?_ ?_ ?_
    · rintro i σ' H' hi ⟨_, T, _⟩
      exact SqL.of (T.up ha)
    · rintro i x σ' H' hx ⟨⟨y, rfl⟩, T, hall⟩
      obtain ⟨o, ho, hkd⟩ := paired_get hp hx
      walk_at "s"
      refine ⟨_, _, _, rfl, hb, hkd.mono T.same, fun H2 s2 => ?_⟩
      have T := T.call s2
      cases hf : figB b o with
      | true =>
        walk_at "s"
        refine ⟨⟨_, rfl⟩, T, ?_⟩
        rw [List.take_add_one, ho, List.all_append, hall]
        show (true && (figB b o && true)) = true
        rw [hf]
        rfl
      | false =>
        walk_at "s"
        have e : rowB b ks = false := by
          unfold rowB
          have : ks.all (figB b) = false := by
            cases hq : ks.all (figB b) with
            | false => rfl
            | true =>
              have := List.all_eq_true.mp hq o (List.mem_of_getElem? ho)
              rw [hf] at this
              cases this
          rw [this, Bool.false_and]
        rw [e] at q
        exact q.go T
    · rintro σ' H' ⟨⟨y, rfl⟩, T, hall⟩
      rw [List.take_of_length_le (by rw [paired_len hp]; exact Nat.le_refl _)] at hall
      obtain ⟨l, rfl, rfl⟩ := paired_figs hp hall
      rw [rowB_iv hall] at q
      walk_at "s"
      refine ⟨Nat.zero_le _, fun d hd => ?_⟩
      have T := T.lay (o := .lst []) hd
      refine x_eqL (l := l) (m := []) (by walk_at "fact") (by walk_at "fact") ?_
      walk_at "s"
      refine if2 (fun h1 => ?_) (fun h1 => ?_)
      · have h2 : l = [] := of_decide_eq_true h1
        subst h2
        exact q.go T
      · have h2 : ¬ l = [] := of_decide_eq_false h1
        rw [List.getLast?_eq_some_getLast h2] at q
        walk_at "s"
        refine x_ix (v := .int ((l.getLast h2 : Nat) : Int)) (T.up ha) ?_ ?_
        · have e := atI_last (iv l.dropLast) (V.int ((l.getLast h2 : Nat) : Int))
          rw [← iv_snoc, List.dropLast_concat_getLast] at e
          exact e
        walk_at "s"
        exact q.go T
  · obtain ⟨t, ty, kb⟩ := (hn.mono s1).ty (K := K)
    refine x_isi ty kb ?_
    walk_at "s"
    exact q _ s1
/-! ### need_row, of a row -/
abbrev s_need_row : Stmt := topS 12
theorem sc_need_row : FnScope ["base", "row"] ["base", "row"] (defScope s_need_row) := ⟨rfl, rfl, rfl, by decide +kernel, rfl, by decide +kernel, by decide +kernel⟩
def spNeedRow : Sp := fun vs H Q _ => ∃ (b n : Nat) (a : Addr), vs = [.int (b : Int), .ref a] ∧ (2 ≤ b ∧ b ≤ 1000000) ∧ H a = some (.lst (dig b n)) ∧ (digits b n).length ≤ 50000 ∧ RetV .non H Q
theorem paired_iv {H : Hp} : ∀ l : List Nat, Paired (Kd H) (iv l) (l.map fun (n : Nat) => some (n : Int))
  | [] => .nil
  | x :: l => .cons (.int _) (paired_iv l)
theorem all_figs {b : Nat} {l : List Nat} (h : AllLt b l) : (l.map fun (n : Nat) => some (n : Int)).all (figB b) = true := by
  rw [List.all_map, List.all_eq_true]
  intro x hx
  have := h x hx
  show (decide (0 ≤ (x : Int)) && decide ((x : Int) < (b : Int))) = true
  rw [decide_eq_true (by omega), decide_eq_true (by omega)]
  rfl
theorem rowB_dig {b n : Nat} (hb : 2 ≤ b) : rowB b ((digits b n).map fun (n : Nat) => some (n : Int)) = true := by
  rw [rowB_iv (all_figs (digits_lt hb n))]
  cases h : (digits b n).getLast? with
  | none => rfl
  | some x =>
    obtain ⟨l, e⟩ := List.getLast?_eq_some_iff.mp h
    have := digits_last hb e
    show (!decide ((x : Int) = 0)) = true
    rw [decide_eq_false (by omega)]
    rfl
theorem rowK_dig {H : Hp} {b n : Nat} {a : Addr} (hb : 2 ≤ b) (ha : H a = some (.lst (dig b n))) (hl : (digits b n).length ≤ 50000) : RowK H b (.ref a) true :=
  .inl ⟨a, _, _, rfl, ha, paired_iv _, by rw [List.length_map]; exact hl, (rowB_dig hb).symm⟩
theorem ok_need_row {P : Program} {w : World} {K : PySem.W.Frag} {mg : Str → Option Value} {base : Heap} (D : Dfn K mg "need_row" s_need_row) (C_is_row : Cal P w K mg base CX0 "is_row" 5 ["base", "row"] spIsRow) : Cal P w K mg base CX0 "need_row" 6 ["base", "row"] spNeedRow := by
  refine cal0 D sc_need_row (fun _ _ _ _ _ _ us hl => match us, hl with | [_, _], _ => rfl) (fun vs H Q E h => ?_) (fun f cdv A outer s H vs Q E hr h => ?_)
  · obtain ⟨b, n, a, rfl, _⟩ := h
    rfl
  obtain ⟨b, n, a, rfl, hb, ha, hl, q⟩ := h
  refine ⟨_, (pss_one (ps_if (pt_not (pt_val (pc C_is_row hr (pa_cons (pv 0) (pa_cons (pv 1) pa_nil))))) (pss_one ps_never) pss_nil)), ?_⟩
  show tIfS _ _ _ _ [some (.int (b : Int)), some (.ref a)] H
  walk_at "s"
  refine ⟨_, _, _, rfl, hb, rowK_dig hb.1 ha hl, fun H1 s1 => ?_⟩
  walk_at "s"
  exact q _ s1

/-! ### what is refused: the gates -/
def RaiseE (K : PySem.W.Frag) (E : XK) (c : Str) (H : Hp) : Prop := ∀ H', Same H H' → E (.ref (He.ga K c)) none H'
def RetAny (H : Hp) (Q : VK) : Prop := ∀ v H', Same H H' → Q v H'
def GateB (K : PySem.W.Frag) (H : Hp) (x : V) (E : XK) (P : Nat → Prop) : Prop := (∃ o, Kd H x o ∧ isB o = false ∧ RaiseE K E "NoBase" H) ∨ (∃ b : Nat, x = .int (b : Int) ∧ (2 ≤ b ∧ b ≤ 1000000) ∧ P b)
def GateR (K : PySem.W.Frag) (H : Hp) (b : Nat) (y : V) (E : XK) (P : Addr → Nat → Prop) : Prop := (RowK H b y false ∧ RaiseE K E "NoRow" H) ∨ (∃ (a : Addr) (n : Nat), y = .ref a ∧ H a = some (.lst (dig b n)) ∧ (digits b n).length ≤ 100 ∧ P a n)
def GateF (K : PySem.W.Frag) (H : Hp) (b : Nat) (z : V) (E : XK) (P : Nat → Prop) : Prop := (∃ o, Kd H z o ∧ figB b o = false ∧ RaiseE K E "NoFigure" H) ∨ (∃ f : Nat, z = .int (f : Int) ∧ f < b ∧ P f)
def cntB (l : Int) (o : Option Int) : Bool := match o with
  | some i => decide (l ≤ i)
  | none => false
def GateC (K : PySem.W.Frag) (H : Hp) (l : Int) (z : V) (E : XK) (P : Nat → Prop) : Prop := (∃ o, Kd H z o ∧ cntB l o = false ∧ RaiseE K E "NoCount" H) ∨ (∃ c : Nat, z = .int (c : Int) ∧ l ≤ (c : Int) ∧ c ≤ 1000 ∧ P c)
theorem RowK.mono {H H' : Hp} {b : Nat} {x : V} {r : Bool} (h : RowK H b x r) (s : Same H H') : RowK H' b x r := by
  rcases h with ⟨a, xs, ks, e, ha, hp, hl, hr⟩ | ⟨hn, hr⟩
  · exact .inl ⟨a, xs, ks, e, s _ _ ha, paired_mono s hp, hl, hr⟩
  · exact .inr ⟨hn.mono s, hr⟩
theorem figB_nat {b f : Nat} (h : f < b) : figB b (some (f : Int)) = true := by
  show (decide (0 ≤ (f : Int)) && decide ((f : Int) < (b : Int))) = true
  rw [decide_eq_true (by omega), decide_eq_true (by omega)]
  rfl
def spNeedBaseX (K : PySem.W.Frag) : Sp := fun vs H Q E => ∃ (x : V) (o : Option Int), vs = [x] ∧ Kd H x o ∧ (isB o = true → RetV .non H Q) ∧ (isB o = false → RaiseE K E "NoBase" H)
def spNeedRowX (K : PySem.W.Frag) : Sp := fun vs H Q E => ∃ (b : Nat) (y : V) (r : Bool), vs = [.int (b : Int), y] ∧ (2 ≤ b ∧ b ≤ 1000000) ∧ RowK H b y r ∧ (r = true → RetV .non H Q) ∧ (r = false → RaiseE K E "NoRow" H)
def spNeedFigureX (K : PySem.W.Frag) : Sp := fun vs H Q E => ∃ (b : Nat) (z : V) (o : Option Int), vs = [.int (b : Int), z] ∧ (2 ≤ b ∧ b ≤ 1000000) ∧ Kd H z o ∧ (figB b o = true → RetV .non H Q) ∧ (figB b o = false → RaiseE K E "NoFigure" H)
def spNeedCountX (K : PySem.W.Frag) : Sp := fun vs H Q E => ∃ (z : V) (l : Int) (o : Option Int), vs = [z, .int l] ∧ Kd H z o ∧ (cntB l o = true → RetV .non H Q) ∧ (cntB l o = false → RaiseE K E "NoCount" H)
section
variable {K : PySem.W.Frag} {H0 H : Hp} {L : List (Addr × HO)} {Q : VK} {E : XK} {x y z : V} {o : Option Int} {b n f : Nat} {a : Addr} {c : Str} {l : Int}
theorem RaiseE.mono (h : RaiseE K E c H0) (s : Same H0 H) : RaiseE K E c H := fun H' s' => h H' (s.trans s')
theorem nbBad (T : Trk H0 H L) (hk : Kd H0 x o) (e : isB o = false) (hE : RaiseE K E "NoBase" H0) : spNeedBaseX K [x] H Q E := ⟨x, o, rfl, hk.mono T.same, fun h => absurd (h.symm.trans e) (fun z => nomatch z), fun _ => hE.mono T.same⟩
theorem nbOk (hb : 2 ≤ b ∧ b ≤ 1000000) (k : RetV .non H Q) : spNeedBaseX K [.int (b : Int)] H Q E := ⟨_, some (b : Int), rfl, .int _, fun _ => k, fun h => absurd (h.symm.trans (isB_nat hb)) (fun z => nomatch z)⟩
theorem nrBad (T : Trk H0 H L) (hb : 2 ≤ b ∧ b ≤ 1000000) (hk : RowK H0 b y false) (hE : RaiseE K E "NoRow" H0) : spNeedRowX K [.int (b : Int), y] H Q E := ⟨b, y, false, rfl, hb, hk.mono T.same, (fun h => nomatch h), fun _ => hE.mono T.same⟩
theorem nrOk (hb : 2 ≤ b ∧ b ≤ 1000000) (ha : H a = some (.lst (dig b n))) (hl : (digits b n).length ≤ 100) (k : RetV .non H Q) : spNeedRowX K [.int (b : Int), .ref a] H Q E := ⟨b, _, true, rfl, hb, rowK_dig hb.1 ha (by omega), fun _ => k, fun h => nomatch h⟩
theorem nfBad (T : Trk H0 H L) (hb : 2 ≤ b ∧ b ≤ 1000000) (hk : Kd H0 z o) (e : figB b o = false) (hE : RaiseE K E "NoFigure" H0) : spNeedFigureX K [.int (b : Int), z] H Q E := ⟨b, z, o, rfl, hb, hk.mono T.same, fun h => absurd (h.symm.trans e) (fun z => nomatch z), fun _ => hE.mono T.same⟩
theorem nfOk (hb : 2 ≤ b ∧ b ≤ 1000000) (hf : f < b) (k : RetV .non H Q) : spNeedFigureX K [.int (b : Int), .int (f : Int)] H Q E := ⟨b, _, some (f : Int), rfl, hb, .int _, fun _ => k, fun h => absurd (h.symm.trans (figB_nat hf)) (fun z => nomatch z)⟩
theorem ncBad (T : Trk H0 H L) (hk : Kd H0 z o) (e : cntB l o = false) (hE : RaiseE K E "NoCount" H0) : spNeedCountX K [z, .int l] H Q E := ⟨z, l, o, rfl, hk.mono T.same, fun h => absurd (h.symm.trans e) (fun z => nomatch z), fun _ => hE.mono T.same⟩
theorem ncOk (hf : l ≤ (f : Int)) (k : RetV .non H Q) : spNeedCountX K [.int (f : Int), .int l] H Q E := ⟨_, l, some (f : Int), rfl, .int _, fun _ => k, fun h => absurd (h.symm.trans (show cntB l (some (f : Int)) = true from decide_eq_true hf)) (fun z => nomatch z)⟩
end
theorem ok_need_base_X {P : Program} {w : World} {K : PySem.W.Frag} {mg : Str → Option Value} {base : Heap} (D : Dfn K mg "need_base" s_need_base) (X_NoBase : Exc1 K mg "NoBase") (C_is_base : Cal P w K mg base CX0 "is_base" 2 ["base"] spIsBase) : Cal P w K mg base (L2.CX P w) "need_base" 3 ["base"] (spNeedBaseX K) := by
  refine calX D sc_need_base (fun _ _ _ _ _ _ us hl => match us, hl with | [_], _ => rfl) (fun vs H Q E h => ?_) (fun f cdv A outer s H vs Q E hr h => ?_)
  · obtain ⟨x, o, rfl, _⟩ := h
    rfl
  obtain ⟨x, o, rfl, hk, q1, q2⟩ := h
  refine ⟨_, (pss_one (ps_if (pt_not (pt_val (pc C_is_base hr (pa_cons (pv 0) pa_nil)))) (pss_one (raise1 X_NoBase rfl (takes_of rfl rfl rfl rfl) rfl)) pss_nil)), ?_⟩
  show tIfS _ _ _ _ [some x] H
  walk_at "s"
  refine ⟨_, o, rfl, hk, fun H1 s1 => ?_⟩
  cases e : isB o with
  | true =>
    walk_at "s"
    exact q1 e _ s1
  | false =>
    walk_at "s"
    exact q2 e _ s1

/-! ### is_figures -/
abbrev s_is_figures : Stmt := topS 16
theorem sc_is_figures : FnScope ["word", "sign"] ["word"] (defScope s_is_figures) := ⟨rfl, rfl, rfl, by decide +kernel, rfl, by decide +kernel, by decide +kernel⟩
def SIG : Str := "0123456789"
def hd1 (w : Str) : Str := match w.cps.toList with
  | c :: _ => ⟨#[c]⟩
  | [] => ""
def figsB (w : Str) : Bool := w.cps.toList.all (fun c => decide (c ∈ SIG.cps.toList)) && (decide (w = "0") || (!decide (w = "") && !decide (hd1 w = "0")))
def spIsFigures : Sp := fun vs H Q _ => ∃ (w : Str), vs = [.str w] ∧ w.length ≤ 100000 ∧ RetV (.bl (figsB w)) H Q
theorem ok_is_figures {P : Program} {w : World} {K : PySem.W.Frag} {mg : Str → Option Value} {base : Heap} (D : Dfn K mg "is_figures" s_is_figures) (gs_SIGNS : ∃ t, mg "SIGNS" = some (.str "0123456789" t)) : Cal P w K mg base CX0 "is_figures" 1 (["word"]) spIsFigures := by
  refine cal0 D sc_is_figures (fun _ _ _ _ _ _ us hl => match us, hl with | [_], _ => rfl) (fun vs H Q E h => ?_) (fun f cdv A outer s H vs Q E hr h => ?_)
  · obtain ⟨w, rfl, _⟩ := h
    rfl
  obtain ⟨w, rfl, hw, q⟩ := h
  obtain ⟨tS, gS⟩ := gs_SIGNS
  refine ⟨_, (pss_cons (ps_for PassesOwn.never rfl (pi_str (pv 0)) (pg_name (i := 1) sc_is_figures.nd rfl (Or.inl rfl)) (pss_one (ps_if (pt_cmpR op_notInS (pv 1) (pe_glob (v := .str "0123456789") (by rfl) gS ⟨_, rfl⟩) (by rfl)) (pss_one (ps_ret pe_bl)) pss_nil)))
      (pss_one (ps_ret (pe_or (pe_cmpR op_eq (pv 0) pe_str (nomark _)) (pe_one (pe_and (pe_cmpR op_ne (pv 0) pe_str (nomark _)) (pe_one (pe_cmpR op_ne (pe_ix ix_str (pv 0) pe_int (fun _ _ => rfl)) pe_str (nomark _))))))))), ?_⟩
  show tSeq _ _ _ [some (.str w), none] H
  have T := Trk.nil H
  have hsz : w.cps.toList.length = w.cps.size := Array.length_toList
  walk_at "s"
  refine for_str (fun i σ' H' => (∃ y, σ' = [some (.str w), y]) ∧ Trk H H' [] ∧ (w.cps.toList.take i).all (fun c => decide (c ∈ SIG.cps.toList)) = true) ⟨⟨none, rfl⟩, T, by rw [List.take_zero]; rfl⟩ ?_ ?_
  · clear T
    rintro i c σ' H' hc ⟨⟨y, rfl⟩, T, hall⟩
    have hc2 : w.cps.toList[i]? = some c := by rw [Array.getElem?_toList]; exact hc
    walk_at "s"
    refine if2 (fun h1 => ?_) (fun h1 => ?_)
    · walk_at "s"
      have e : figsB w = false := by
        unfold figsB
        have : w.cps.toList.all (fun c => decide (c ∈ SIG.cps.toList)) = false := by
          cases hq : w.cps.toList.all (fun c => decide (c ∈ SIG.cps.toList)) with
          | false => rfl
          | true =>
            have h2 := List.all_eq_true.mp hq c (List.mem_of_getElem? hc2)
            have h3 : (!decide (c ∈ SIG.cps.toList)) = true := h1
            rw [h2] at h3
            cases h3
        rw [this, Bool.false_and]
      rw [e] at q
      exact q.go T
    · walk_at "s"
      refine ⟨⟨_, rfl⟩, T, ?_⟩
      have h3 : (!decide (c ∈ SIG.cps.toList)) = false := h1
      rw [List.take_add_one, hc2, List.all_append, hall]
      show (true && (decide (c ∈ SIG.cps.toList) && true)) = true
      cases hd : decide (c ∈ SIG.cps.toList) with
      | true => rfl
      | false =>
        rw [hd] at h3
        cases h3
  · clear T
    rintro σ' H' ⟨⟨y, rfl⟩, T, hall⟩
    rw [List.take_of_length_le (by omega)] at hall
    unfold figsB at q
    rw [hall, Bool.true_and] at q
    walk_at "s"
    by_cases h1 : w = "0"
    · refine ifT (decide_eq_true h1) ?_
      rw [decide_eq_true h1, Bool.true_or] at q
      first | exact q.go T | (walk_at "s"; exact q.go T)
    refine ifF (decide_eq_false h1) ?_
    rw [decide_eq_false h1, Bool.false_or] at q
    walk_at "s"
    by_cases h2 : w = ""
    · refine ifF (by rw [decide_eq_true h2]; rfl) ?_
      rw [decide_eq_true h2] at q
      first | exact q.go T | (walk_at "s"; exact q.go T)
    refine ifT (by rw [decide_eq_false h2]; rfl) ?_
    rw [decide_eq_false h2] at q
    obtain ⟨c, r, hcr⟩ : ∃ c r, w.cps.toList = c :: r := by
      cases e : w.cps.toList with
      | nil =>
        refine absurd ?_ h2
        obtain ⟨cp⟩ := w
        have : cp = #[] := by
          rw [← Array.toList_eq_nil_iff]
          exact e
        rw [this]
        rfl
      | cons c r => exact ⟨c, r, rfl⟩
    have hh : hd1 w = ⟨#[c]⟩ := by
      unfold hd1
      rw [hcr]
    rw [hh] at q
    walk_at "s"
    refine x_ixC (c := c) hw (by rw [hcr]; exact atI_nat (j := 0) rfl) ?_
    walk_at "s"
    exact q.go T

/-! ### read -/
inductive NoS (H : Hp) : V → Prop where
  | int (i : Int) : NoS H (.int i)
  | bl (b : Bool) : NoS H (.bl b)
  | non : NoS H .non
  | lst {a : Addr} {xs : List V} (e : H a = some (.lst xs)) : NoS H (.ref a)
  | tup {a : Addr} {xs : List V} (e : H a = some (.tup xs)) : NoS H (.ref a)
theorem NoS.mono {H H' : Hp} {x : V} (k : NoS H x) (s : Same H H') : NoS H' x := by
  cases k with
  | int i => exact .int i
  | bl b => exact .bl b
  | non => exact .non
  | lst e => exact .lst (s _ _ e)
  | tup e => exact .tup (s _ _ e)
theorem NoS.ty {K : PySem.W.Frag} {H : Hp} {x : V} (k : NoS H x) : ∃ t, TyX K H x (.type t) ∧ kitB t "str" = some false := by
  cases k with
  | int i => exact ⟨"int", .base (.int i), by decide +kernel⟩
  | bl b => exact ⟨"bool", .base (.bl b), by decide +kernel⟩
  | non => exact ⟨"NoneType", .base .non, by decide +kernel⟩
  | lst e => exact ⟨"list", .base (.lst e), by decide +kernel⟩
  | tup e => exact ⟨"tuple", .base (.tup e), by decide +kernel⟩
def wval (w : Str) : Nat := NumText.digitsVal w.cps.toList
theorem sig_digits : ∀ c ∈ SIG.cps.toList, 48 ≤ c ∧ c ≤ 57 := by decide +kernel
theorem str_nil {w : Str} (e : w.cps.toList = []) : w = "" := by
  obtain ⟨cp⟩ := w
  have : cp = #[] := by
    rw [← Array.toList_eq_nil_iff]
    exact e
  rw [this]
  rfl
theorem fig_int {w : Str} (h : figsB w = true) (hl : w.length ≤ 640) : PySem.intText? w = some ((wval w : Nat) : Int) := by
  unfold figsB at h
  rw [Bool.and_eq_true] at h
  obtain ⟨h1, h2⟩ := h
  refine PySem.intText_digits (fun c hc => sig_digits c (of_decide_eq_true (List.all_eq_true.mp h1 c hc))) (fun e => ?_) (by omega)
  have := str_nil e
  subst this
  revert h2
  decide +kernel
theorem le_sum : ∀ {l : List Nat} {x : Nat}, x ∈ l → x ≤ l.sum
  | [], _, h => nomatch h
  | y :: l, x, h => by
    rw [List.sum_cons]
    rcases List.mem_cons.mp h with rfl | h
    · omega
    · have := le_sum h
      omega
def wordsOf (line : Str) : List Str := Txt.split line "."
theorem words_len {line w : Str} (h : w ∈ wordsOf line) : w.length ≤ line.length := by
  have h1 := PyProof.Rows.split_weight line "." (by decide)
  have h2 := le_sum (List.mem_map_of_mem (f := fun x : Str => x.length) h)
  have h3 : 1 ≤ (Txt.split line ".").length := List.length_pos_of_mem h
  have h4 : (List.map (fun x : Str => x.length) (wordsOf line)).sum = (List.map (·.length) (Txt.split line ".")).sum := rfl
  have h5 : (fun x : Str => x.length) w = w.length := rfl
  omega
theorem words_many (line : Str) : (wordsOf line).length ≤ line.length + 1 := by
  have h1 := PyProof.Rows.split_weight line "." (by decide)
  show (Txt.split line ".").length ≤ _
  omega
def rowOf (line : Str) : List Nat := (wordsOf line).reverse.map wval
def somes (l : List Nat) : List (Option Int) := l.map fun (n : Nat) => some (n : Int)
def readB (b : Nat) (line : Str) : Bool := decide (line = "0") || ((wordsOf line).all figsB && rowB b (somes (rowOf line)))
def readL (line : Str) : List Nat := if line = "0" then [] else rowOf line
def spReadE (K : PySem.W.Frag) : Sp := fun vs H Q E => ∃ (x y : V), vs = [x, y] ∧ GateB K H x E fun b => (NoS H y ∧ RaiseE K E "NoRow" H) ∨ (∃ line : Str, y = .str line ∧ line.length ≤ 640 ∧ (readB b line = false → RaiseE K E "NoRow" H) ∧ (readB b line = true → RetL (iv (readL line)) H Q))
abbrev s_read : Stmt := topS 17
theorem sc_read : FnScope ["base", "line", "row", "word"] ["base", "line"] (defScope s_read) := ⟨rfl, rfl, rfl, by decide +kernel, rfl, by decide +kernel, by decide +kernel⟩
theorem ok_read_X {P : Program} {w : World} {K : PySem.W.Frag} {mg : Str → Option Value} {base : Heap} (D : Dfn K mg "read" s_read) (m_reversed : mg "reversed" = none) (m_str : mg "str" = none) (m_int : mg "int" = none) (m_isinstance : mg "isinstance" = none) (X_NoRow : Exc1 K mg "NoRow") (CX_need_base : Cal P w K mg base (L2.CX P w) "need_base" 3 ["base"] (spNeedBaseX K)) (C_is_figures : Cal P w K mg base CX0 "is_figures" 1 (["word"]) spIsFigures) (C_is_row : Cal P w K mg base CX0 "is_row" 5 ["base", "row"] spIsRow) : Cal P w K mg base (L2.CX P w) "read" 7 (["base", "line"]) (spReadE K) := by
  refine calX D sc_read (fun _ _ _ _ _ _ us hl => match us, hl with | [_, _], _ => rfl) (fun vs H Q E h => ?_) (fun f cdv A outer s H vs Q E hr h => ?_)
  · obtain ⟨x, y, rfl, _⟩ := h
    rfl
  obtain ⟨x, y, rfl, hg⟩ := h
  refine ⟨_, (pss_cons (ps_expr (pcE CX_need_base hr (takes_of rfl rfl rfl rfl) (pa_cons (pv 0) pa_nil)))
      (pss_cons (ps_if (pt_not (pt_val (pe_callB call_isi (by rfl) m_isinstance (by decide +kernel) (pa_cons (pv 1) (pa_cons (pe_bltn (v := .ty "str") (by rfl) m_str (by decide +kernel) rfl) pa_nil))))) (pss_one (raise1 X_NoRow rfl (takes_of rfl rfl rfl rfl) rfl)) pss_nil)
      (pss_cons (ps_if (pt_cmpR op_eq (pv 1) pe_str (nomark _)) (pss_one (ps_ret (pe_lst pa_nil))) pss_nil)
      (pss_cons (ps_set (i := 2) sc_read.nd rfl (Or.inl rfl) (pe_lst pa_nil))
      (pss_cons (ps_for (passes_of rfl) rfl (pi_reversed (by rfl) m_reversed (pa_cons (pe_splitN (pv 1) pe_str) pa_nil)) (pg_name (i := 3) sc_read.nd rfl (Or.inl rfl)) (pss_cons (ps_if (pt_not (pt_val (pc C_is_figures hr (pa_cons (pv 3) pa_nil)))) (pss_one (raise1 X_NoRow rfl (takes_of rfl rfl rfl rfl) rfl)) pss_nil)
      (pss_one (ps_expr (pe_bm PySem.F.plainAttrs_list PySem.F.slot_list_append PySem.F.type_list_append mt_append (pv 2) (pa_cons (pe_callTy call_intS (by rfl) m_int (by decide +kernel) (pa_cons (pv 3) pa_nil)) pa_nil))))))
      (pss_cons (ps_if (pt_not (pt_val (pc C_is_row hr (pa_cons (pv 0) (pa_cons (pv 2) pa_nil))))) (pss_one (raise1 X_NoRow rfl (takes_of rfl rfl rfl rfl) rfl)) pss_nil)
      (pss_one (ps_ret (pv 2))))))))), ?_⟩
  show tSeq _ _ _ [some x, some y, none, none] H
  have T := Trk.nil H
  rcases hg with ⟨o, hk, e, hE⟩ | ⟨b, rfl, hb, hg⟩
  · walk_at "s"
    exact nbBad T hk e hE
  walk_at "s"
  refine nbOk hb (t_retV T fun _ T => ?_)
  walk_at "s"
  rcases hg with ⟨hk, hE⟩ | ⟨line, rfl, hl, q2, q⟩
  · obtain ⟨t, ty, kb⟩ := (hk.mono T.same).ty (K := K)
    refine x_isi ty kb ?_
    walk_at "s"
    exact hE _ T.same
  refine x_isi (b := true) (.base (.str line)) (by decide +kernel) ?_
  walk_at "s"
  unfold readB at q q2
  unfold readL at q
  by_cases h0 : line = "0"
  · refine ifT (decide_eq_true h0) ?_
    rw [decide_eq_true h0, if_pos h0, Bool.true_or] at q
    walk_at "s"
    refine t_new T (Nat.le_of_ble_eq_true rfl) fun d T => ?_
    exact (q rfl).go T 0 rfl
  refine ifF (decide_eq_false h0) ?_
  rw [decide_eq_false h0, if_neg h0, Bool.false_or] at q
  rw [decide_eq_false h0, Bool.false_or] at q2
  walk_at "s"
  refine t_new T (Nat.le_of_ble_eq_true rfl) fun d T => ?_
  walk_at "s"
  refine x_split (by decide) (by omega) fun c hc => ?_
  have T := T.lay (o := .lst ((wordsOf line).map V.str)) hc
  have hwl : ∀ w ∈ wordsOf line, w.length ≤ 640 := fun w hw => Nat.le_trans (words_len hw) hl
  have hwm := words_many line
  walk_at "s"
  refine RT.for_Itv (xs := (wordsOf line).map V.str) (fun i σ' H' => (∃ y, σ' = [some (.int (b : Int)), some (.str line), some (.ref d), y]) ∧ ((wordsOf line).reverse.take i).all figsB = true ∧ Trk H H' [(c, .lst ((wordsOf line).map V.str)), (d, .lst (iv (((wordsOf line).reverse.take i).map wval)))]) ⟨⟨none, rfl⟩, by rw [List.take_zero]; rfl, T⟩ ?_ ?_ ?_
  · rintro i σ' H' ⟨_, _, T⟩
    exact SqL.of (T.get (i := 0) rfl)
  · clear T
    rintro i v σ' H' hi hx ⟨⟨y, rfl⟩, hall, T⟩
    rw [List.length_map] at hi hx
    obtain ⟨wd, hw, rfl⟩ : ∃ wd, (wordsOf line)[(wordsOf line).length - 1 - i]? = some wd ∧ v = .str wd := by
      rw [List.getElem?_map] at hx
      cases e : (wordsOf line)[(wordsOf line).length - 1 - i]? with
      | none =>
        rw [e] at hx
        cases hx
      | some wd =>
        rw [e] at hx
        exact ⟨wd, rfl, (Option.some.inj hx).symm⟩
    have hmem := List.mem_of_getElem? hw
    have hr : (wordsOf line).reverse[i]? = some wd := by
      rw [List.getElem?_reverse hi]
      exact hw
    have hwd := hwl wd hmem
    walk_at "s"
    refine ⟨wd, rfl, by omega, t_retV T fun _ T => ?_⟩
    cases hf : figsB wd with
    | false =>
      walk_at "s"
      refine q2 ?_ _ T.same
      have : (wordsOf line).all figsB = false := by
        cases hq : (wordsOf line).all figsB with
        | false => rfl
        | true =>
          have h2 := List.all_eq_true.mp hq wd hmem
          rw [hf] at h2
          cases h2
      rw [this, Bool.false_and]
    | true =>
      walk_at "s"
      refine x_intS (fig_int hf hwd) hwd ?_
      walk_at "s"
      refine t_app (i := 1) T (by exact rfl) (by rw [iv_length, List.length_map, List.length_take, List.length_reverse]; omega) fun T => ?_
      walk_at "s"
      refine ⟨⟨_, rfl⟩, ?_, ?_⟩
      · rw [List.take_add_one, hr, List.all_append, hall]
        show (true && (figsB wd && true)) = true
        rw [hf]
        rfl
      · rw [List.take_add_one, hr, List.map_append, iv_append]
        exact T
  · clear T
    rintro σ' H' ⟨⟨y, rfl⟩, hall, T⟩
    rw [List.take_of_length_le (by rw [List.length_map, List.length_reverse]; exact Nat.le_refl _)] at hall T
    have hall2 : (wordsOf line).all figsB = true := by
      rw [← List.all_reverse]
      exact hall
    rw [hall2, Bool.true_and] at q q2
    walk_at "s"
    refine ⟨b, _, _, rfl, hb, .inl ⟨d, _, _, rfl, by walk_at "fact", paired_iv _, by rw [List.length_map, List.length_map, List.length_reverse]; omega, rfl⟩, t_retV T fun _ T => ?_⟩
    cases hrb : rowB b (somes (rowOf line)) with
    | false =>
      refine x_bl ?_
      refine ifT (show (!rowB b (somes (rowOf line))) = true by rw [hrb]; rfl) ?_
      walk_at "s"
      exact q2 hrb _ T.same
    | true =>
      refine x_bl ?_
      refine ifF (show (!rowB b (somes (rowOf line))) = false by rw [hrb]; rfl) ?_
      walk_at "s"
      exact (q hrb).go T 1 rfl

def numS (n : Nat) : Str := Str.ofString (toString ((n : Nat) : Int))
def wtext (b n : Nat) : Str := if n = 0 then "0" else Txt.join "." ((digits b n).reverse.map numS)
theorem numS_len {n : Nat} (h : n < 10 ^ 10) : (numS n).length ≤ 10 := by
  have e : (numS n).length = (TL.numL n).length := by
    show (numS n).cps.size = _
    rw [← TL.tl_num n]
    exact Array.length_toList.symm
  rw [e]
  exact TL.numL_len (by decide) h
theorem sum_le : ∀ {l : List Nat} {k : Nat}, (∀ x ∈ l, x ≤ k) → l.sum ≤ l.length * k
  | [], _, _ => Nat.zero_le _
  | x :: l, k, h => by
    have h1 := sum_le (l := l) (k := k) fun z hz => h z (List.mem_cons_of_mem _ hz)
    have h2 := h x List.mem_cons_self
    rw [List.sum_cons, List.length_cons, Nat.add_mul]
    omega

abbrev s_written : Stmt := topS 15
theorem sc_written : FnScope ["base", "row", "figure"] ["base", "row"] (defScope s_written) := ⟨rfl, rfl, rfl, by decide +kernel, rfl, by decide +kernel, by decide +kernel⟩
def spWritten : Sp := fun vs H Q _ => ∃ (b n : Nat) (a : Addr), vs = [.int (b : Int), .ref a] ∧ (2 ≤ b ∧ b ≤ 1000000) ∧ H a = some (.lst (dig b n)) ∧ (digits b n).length ≤ 1000 ∧ RetV (.str (wtext b n)) H Q
theorem ok_written {P : Program} {w : World} {K : PySem.W.Frag} {mg : Str → Option Value} {base : Heap} (D : Dfn K mg "written" s_written) (m_reversed : mg "reversed" = none) (m_str : mg "str" = none) (C_need_base : Cal P w K mg base CX0 "need_base" 3 ["base"] spNeedBase) (C_need_row : Cal P w K mg base CX0 "need_row" 6 ["base", "row"] spNeedRow) : Cal P w K mg base CX0 "written" 7 (["base", "row"]) spWritten := by
  refine cal0 D sc_written (fun _ _ _ _ _ _ us hl => match us, hl with | [_, _], _ => rfl) (fun vs H Q E h => ?_) (fun f cdv A outer s H vs Q E hr h => ?_)
  · obtain ⟨b, n, a, rfl, _⟩ := h
    rfl
  obtain ⟨b, n, a, rfl, hb, ha, hn, q⟩ := h
  refine ⟨_, (pss_cons (ps_expr (pc C_need_base hr (pa_cons (pv 0) pa_nil)))
      (pss_cons (ps_expr (pc C_need_row hr (pa_cons (pv 0) (pa_cons (pv 1) pa_nil))))
      (pss_cons (ps_if (pt_cmpR (op_eqD hr.units) (pv 1) (pe_lst pa_nil) (nomark _)) (pss_one (ps_ret pe_str)) pss_nil)
      (pss_one (ps_ret (pe_joinN pe_str (pe_lc (own := [("figure", 2)]) (g := gName 2) (tt := tYes) rfl sc_written.nd (pi_reversed (by rfl) m_reversed (pa_cons (pv 1) pa_nil)) (blkOk_by (N := ["base", "row", "figure"]) (sc := defScope s_written) (by decide +kernel)) (fun _ _ _ _ _ => pg_name (i := 2) sc_written.nd rfl (Or.inl rfl)) (fun _ _ _ _ _ => pts_nil) (fun _ _ _ _ _ => (pe_callTy call_strI (by rfl) m_str (by decide +kernel) (pa_cons (pv 2) pa_nil)))))))))), ?_⟩
  show tSeq _ _ _ [some (.int (b : Int)), some (.ref a), none] H
  have T := Trk.nil H
  walk_at "s"
  refine ⟨_, rfl, hb, t_retV T fun _ T => ?_⟩
  walk_at "s"
  refine ⟨_, _, _, rfl, hb, T.up ha, by omega, t_retV T fun _ T => ?_⟩
  walk_at "s"
  refine t_new T (Nat.le_of_ble_eq_true rfl) fun d T => ?_
  walk_at "s"
  refine x_eqL (l := digits b n) (m := []) (T.up ha) (by walk_at "fact") ?_
  walk_at "s"
  unfold wtext at q
  by_cases hz : n = 0
  · refine ifT (decide_eq_true ((digits_nil hb.1).mpr hz)) ?_
    rw [if_pos hz] at q
    walk_at "s"
    exact q.go T
  refine ifF (decide_eq_false fun z => hz ((digits_nil hb.1).mp z)) ?_
  rw [if_neg hz] at q
  walk_at "s"
  intro e he
  have T := T.lay (o := .lst []) he
  have lt := digits_lt hb.1 n
  have e1 : (dig b n).length = (digits b n).length := iv_length _
  refine lc_Itv (xs := dig b n) (fun i H' => Trk H H' [(e, .lst (((digits b n).reverse.map numS).take i |>.map V.str))]) (T.take 1) ?_ ?_ ?_
  · intro i H' T
    exact SqL.of (T.up ha)
  · intro i v H' hi hx T
    obtain ⟨u, hu, rfl⟩ := iv_at hx
    have hub := lt.get hu
    rw [e1] at hi hu
    have hr2 : ((digits b n).reverse.map numS)[i]? = some (numS u) := by
      rw [List.getElem?_map, List.getElem?_reverse hi, hu]
      rfl
    show gName 2 _ [some (.int (b : Int)), some (.ref a), none] _ _
    walk_at "s"
    refine ⟨rfl, ?_⟩
    walk_at "s"
    refine x_strI (by omega) ?_
    refine ⟨_, T.get (i := 0) rfl, Nat.lt_of_lt_of_le (show _ < 100000 by rw [List.length_map, List.length_take, List.length_map, List.length_reverse]; omega) (by decide), ?_⟩
    rw [List.take_add_one, hr2, List.map_append]
    exact T.mut 0 rfl
  · intro H' T
    rw [List.take_of_length_le (by rw [List.length_map, List.length_reverse, e1]; exact Nat.le_refl _)] at T
    walk_at "s"
    refine x_join (T.get (i := 0) rfl) ?_ (q.go T)
    rw [List.map_map, List.length_map, List.length_reverse]
    have hs := sum_le (l := (digits b n).reverse.map ((fun x : Str => x.length) ∘ numS)) (k := 10) (fun x hx => by
      obtain ⟨y, hy, rfl⟩ := List.mem_map.mp hx
      have := lt y (List.mem_reverse.mp hy)
      exact numS_len (by omega))
    rw [List.length_map, List.length_reverse] at hs
    have : (Str.length "." ) = 1 := rfl
    rw [this]
    omega

/-! ### what a row writes is read back to it -/
theorem sig_mem {c : Nat} (h : 48 ≤ c ∧ c ≤ 57) : c ∈ SIG.cps.toList := by
  have e : SIG.cps.toList = [48, 49, 50, 51, 52, 53, 54, 55, 56, 57] := by decide +kernel
  rw [e]
  have h2 : c = 48 ∨ c = 49 ∨ c = 50 ∨ c = 51 ∨ c = 52 ∨ c = 53 ∨ c = 54 ∨ c = 55 ∨ c = 56 ∨ c = 57 := by omega
  rcases h2 with rfl | rfl | rfl | rfl | rfl | rfl | rfl | rfl | rfl | rfl <;> decide
theorem numL_head : ∀ n : Nat, 1 ≤ n → ∃ c r, TL.numL n = c :: r ∧ c ≠ 48 := by
  intro n
  induction n using Nat.strongRecOn with
  | _ n ih =>
    intro hn
    by_cases h : n < 10
    · exact ⟨48 + n, [], TL.numL_lt h, by omega⟩
    · obtain ⟨c, r, e, hc⟩ := ih (n / 10) (by omega) (by omega)
      exact ⟨c, r ++ [48 + n % 10], by rw [TL.numL_step (by omega), e]; rfl, hc⟩
theorem numS_tl (n : Nat) : (numS n).cps.toList = TL.numL n := TL.tl_num n
theorem figs_num (n : Nat) : figsB (numS n) = true := by
  unfold figsB
  have h1 : (numS n).cps.toList.all (fun c => decide (c ∈ SIG.cps.toList)) = true := by
    rw [numS_tl]
    exact List.all_eq_true.mpr fun c hc => decide_eq_true (sig_mem (TL.numL_digits n c hc))
  rw [h1, Bool.true_and]
  rcases Nat.eq_zero_or_pos n with rfl | hn
  · rw [show decide (numS 0 = "0") = true by decide +kernel, Bool.true_or]
  obtain ⟨c, r, e, hc⟩ := numL_head n hn
  have h2 : decide (numS n = "") = false := decide_eq_false fun z => by
    have := numS_tl n
    rw [z, e] at this
    cases this
  have h3 : decide (hd1 (numS n) = "0") = false := decide_eq_false fun z => by
    unfold hd1 at z
    rw [numS_tl, e] at z
    have z2 : [c] = [48] := congrArg (fun s : Str => s.cps.toList) z
    injection z2 with z2
    exact hc z2
  rw [h2, h3, Bool.not_false, Bool.and_true, Bool.or_true]
theorem wval_num (n : Nat) : wval (numS n) = n := by
  unfold wval
  rw [numS_tl]
  exact TL.numL_val n
theorem words_join {ws : List Nat} (h : ws ≠ []) : wordsOf (Txt.join "." (ws.map numS)) = ws.map numS := by
  refine TL.split_join (s := 46) (S := []) (by decide +kernel) (by decide +kernel) (fun e => h (List.map_eq_nil_iff.mp e)) fun p hp => ?_
  obtain ⟨n, _, rfl⟩ := List.mem_map.mp hp
  show 46 ∉ (numS n).cps.toList
  rw [numS_tl]
  exact TL.numL_free (by omega)
theorem figs_all (ws : List Nat) : (ws.map numS).all figsB = true := List.all_eq_true.mpr fun w hw => by
  obtain ⟨n, _, rfl⟩ := List.mem_map.mp hw
  exact figs_num n
theorem wvals (ws : List Nat) : (ws.map numS).map wval = ws := by
  rw [List.map_map]
  conv => rhs; rw [← List.map_id ws]
  exact List.map_congr_left fun n _ => wval_num n
theorem rowOf_join {ws : List Nat} (h : ws ≠ []) : rowOf (Txt.join "." (ws.map numS)) = ws.reverse := by
  unfold rowOf
  rw [words_join h, ← List.map_reverse, wvals]
theorem readB_zero {b : Nat} : readB b "0" = true := by
  unfold readB
  rw [decide_eq_true rfl, Bool.true_or]
theorem words_zero : wordsOf "0" = [("0" : Str)] := by decide +kernel
theorem read_wtext {b : Nat} (hb : 2 ≤ b) (n : Nat) : readB b (wtext b n) = true ∧ readL (wtext b n) = digits b n := by
  unfold wtext
  by_cases hn : n = 0
  · rw [if_pos hn, hn, digits_zero]
    exact ⟨readB_zero, rfl⟩
  rw [if_neg hn]
  have hd : digits b n ≠ [] := fun e => hn ((digits_nil hb).mp e)
  have hr : (digits b n).reverse ≠ [] := fun e => hd (List.reverse_eq_nil_iff.mp e)
  have e1 := rowOf_join hr
  rw [List.reverse_reverse] at e1
  have hz : Txt.join "." ((digits b n).reverse.map numS) ≠ "0" := fun e => by
    have e2 : rowOf "0" = [0] := by unfold rowOf; rw [words_zero]; decide +kernel
    rw [e, e2] at e1
    have := val_digits hb n
    rw [← e1] at this
    exact hn this.symm
  unfold readB readL
  rw [decide_eq_false hz, if_neg hz, Bool.false_or, words_join hr, figs_all, Bool.true_and, e1]
  exact ⟨rowB_dig hb, rfl⟩
theorem wtext_len {b n : Nat} (hb : 2 ≤ b ∧ b ≤ 1000000) {k : Nat} (h : (digits b n).length ≤ k) (hk : 1 ≤ k) : (wtext b n).length ≤ 7 * k := by
  unfold wtext
  by_cases hn : n = 0
  · rw [if_pos hn]
    show 1 ≤ _
    omega
  rw [if_neg hn, TL.join_eq]
  have h1 := StrLaws.join_length_le "." ((digits b n).reverse.map numS)
  have lt := digits_lt hb.1 n
  rw [List.map_map, List.length_map, List.length_reverse] at h1
  have hs := sum_le (l := (digits b n).reverse.map ((fun x : Str => x.length) ∘ numS)) (k := 6) (fun x hx => by
    obtain ⟨y, hy, rfl⟩ := List.mem_map.mp hx
    have := lt y (List.mem_reverse.mp hy)
    have e : (numS y).length = (TL.numL y).length := by
      rw [← numS_tl]
      exact Array.length_toList.symm
    show (numS y).length ≤ 6
    rw [e]
    exact TL.numL_len (by decide) (by omega))
  rw [List.length_map, List.length_reverse] at hs
  have : (Str.length ".") = 1 := rfl
  rw [this] at h1
  have h3 : ((digits b n).reverse.map ((fun x : Str => x.length) ∘ numS)).sum = (List.map ((·.length) ∘ numS) (digits b n).reverse).sum := rfl
  omega
/-- a row with a one at its end, written -/
theorem wtext_one {b n : Nat} (hb : 2 ≤ b) : wtext b (val b (digits b n ++ [1])) = if n = 0 then ("1" : Str) else ("1." : Str) ++ wtext b n := by
  have e := digits_val_snoc hb (digits_lt hb n) (by omega : 1 < b) (by decide)
  have hv : val b (digits b n ++ [1]) ≠ 0 := fun z => by
    rw [z, digits_zero] at e
    have := congrArg List.length e
    rw [List.length_append] at this
    cases this
  unfold wtext
  rw [if_neg hv, e, List.reverse_append]
  by_cases hn : n = 0
  · rw [if_pos hn, hn, digits_zero]
    decide +kernel
  rw [if_neg hn, if_neg hn]
  have hd : digits b n ≠ [] := fun e => hn ((digits_nil hb).mp e)
  obtain ⟨w, ws, hw⟩ : ∃ w ws, (digits b n).reverse = w :: ws := by
    cases h : (digits b n).reverse with
    | nil => exact absurd (List.reverse_eq_nil_iff.mp h) hd
    | cons w ws => exact ⟨w, ws, rfl⟩
  rw [hw, TL.join_eq, TL.join_eq]
  show numS 1 ++ ("." : Str) ++ Str.join "." (numS w :: ws.map numS) = ("1." : Str) ++ Str.join "." (numS w :: ws.map numS)
  rw [show numS 1 ++ ("." : Str) = "1." by decide +kernel]
/-! ### a text, so often -/
def repS (a : Str) (k : Nat) : Str := ⟨(List.replicate k a.cps).foldl (· ++ ·) #[]⟩
theorem repS_zero (a : Str) : repS a 0 = "" := rfl
theorem repS_one (a : Str) : repS a 1 = a := by
  unfold repS
  show (⟨#[] ++ a.cps⟩ : Str) = a
  rw [Array.empty_append]
theorem rep_empty : ∀ k : Nat, (List.replicate k (#[] : Array Nat)).foldl (· ++ ·) #[] = #[]
  | 0 => rfl
  | k + 1 => by
    rw [List.replicate_succ, List.foldl_cons]
    exact rep_empty k
def rMulS : R2 := fun x y H Q => ∃ (a : Str) (k : Nat), x = .str a ∧ y = .int (k : Int) ∧ k ≤ 1000 ∧ a.length ≤ 1000 ∧ (repS a k).length ≤ 100000 ∧ Q (.str (repS a k)) H
theorem op_mulS {X : Cx} : OpR X (binaryOp .Mult) rMulS := by
  intro pins s σ H x y v u Q I rx ry h
  obtain ⟨a, k, rfl, rfl, hk, ha, hl, q⟩ := h
  obtain ⟨t, rfl⟩ := rx
  obtain ⟨t', rfl⟩ := ry
  have hm : a.length * k ≤ 1000 * 1000 := Nat.mul_le_mul ha hk
  refine P.mul_str ?_ ?_ ?_ ?_
  · rw [decide_eq_false (by omega), decide_eq_false (by omega)]
    rfl
  · intro h1 _
    have hk1 : (1 : Int) ≤ (k : Int) := by omega
    have h2 : (1000 : Int) ≤ (2 ^ 63 - 1) / (k : Int) := by
      rw [Int.le_ediv_iff_mul_le (by omega)]
      omega
    omega
  · intro _ _
    rw [Int.toNat_natCast]
    show decide (a.length * k > sizeLine) = false
    have : (1000 * 1000 : Nat) ≤ sizeLine := by decide
    exact decide_eq_false (by omega)
  · by_cases h0 : (k : Int) < 1
    · rw [if_pos h0]
      have e : k = 0 := by omega
      subst e
      exact ⟨by decide, .str _, H, I.tok _, ⟨_, rfl⟩, q⟩
    · rw [if_neg h0]
      by_cases h1 : ((k : Int) == 1 || a.length == 0) = true
      · rw [if_pos h1]
        have e : repS a k = a := by
          rw [Bool.or_eq_true] at h1
          rcases h1 with h1 | h1
          · have : k = 1 := by
              have := eq_of_beq h1
              omega
            subst this
            exact repS_one a
          · have h2 : a.cps.size = 0 := eq_of_beq h1
            have h3 : a.cps = #[] := Array.eq_empty_of_size_eq_zero h2
            obtain ⟨cp⟩ := a
            cases (show cp = #[] from h3)
            unfold repS
            rw [rep_empty]
        rw [e] at q
        exact ⟨.str a, H, I, ⟨t, rfl⟩, q⟩
      · rw [if_neg h1, Int.toNat_natCast]
        exact ⟨Nat.le_trans hl (by decide), .str _, H, I.tok _, ⟨_, rfl⟩, q⟩
def rAddS : R2 := fun x y H Q => ∃ i j, x = .str i ∧ y = .str j ∧ i.length + j.length ≤ sizeLine ∧ Q (.str (i ++ j)) H
theorem op_addS {X : Cx} : OpR X (binaryOp .Add) rAddS := op_add_str
section
variable {H : Hp} {Q : VK} {a c : Str} {k : Nat}
theorem x_mulS (hk : k ≤ 1000) (ha : a.length ≤ 1000) (hl : (repS a k).length ≤ 100000) (q : Q (.str (repS a k)) H) : rMulS (.str a) (.int (k : Int)) H Q := ⟨a, k, rfl, rfl, hk, ha, hl, q⟩
theorem x_addS (hz : a.length + c.length ≤ 100000) (q : Q (.str (a ++ c)) H) : rAddS (.str a) (.str c) H Q := ⟨a, c, rfl, rfl, sz hz, q⟩
theorem app_len (a c : Str) : (a ++ c).length = a.length + c.length := Str.length_append a c
theorem cut_len (z : Str) (lo hi : Option Int) : (cutS z lo hi).length ≤ z.length := by
  show ((z.cps.toList.drop _).take _).toArray.size ≤ z.cps.size
  rw [List.size_toArray, List.length_take, List.length_drop, Array.length_toList]
  omega
end

/-! ### read, a text that writes a row -/
def spRead : Sp := fun vs H Q _ => ∃ (b : Nat) (line : Str), vs = [.int (b : Int), .str line] ∧ (2 ≤ b ∧ b ≤ 1000000) ∧ line.length ≤ 640 ∧ readB b line = true ∧ RetL (iv (readL line)) H Q
theorem ok_read {P : Program} {w : World} {K : PySem.W.Frag} {mg : Str → Option Value} {base : Heap} (D : Dfn K mg "read" s_read) (m_reversed : mg "reversed" = none) (m_str : mg "str" = none) (m_int : mg "int" = none) (m_isinstance : mg "isinstance" = none) (C_need_base : Cal P w K mg base CX0 "need_base" 3 ["base"] spNeedBase) (C_is_figures : Cal P w K mg base CX0 "is_figures" 1 (["word"]) spIsFigures) (C_is_row : Cal P w K mg base CX0 "is_row" 5 ["base", "row"] spIsRow) : Cal P w K mg base CX0 "read" 7 (["base", "line"]) spRead := by
  refine cal0 D sc_read (fun _ _ _ _ _ _ us hl => match us, hl with | [_, _], _ => rfl) (fun vs H Q E h => ?_) (fun f cdv A outer s H vs Q E hr h => ?_)
  · obtain ⟨b, line, rfl, _⟩ := h
    rfl
  obtain ⟨b, line, rfl, hb, hl, hB, q⟩ := h
  refine ⟨_, (pss_cons (ps_expr (pc C_need_base hr (pa_cons (pv 0) pa_nil)))
      (pss_cons (ps_if (pt_not (pt_val (pe_callB call_isi (by rfl) m_isinstance (by decide +kernel) (pa_cons (pv 1) (pa_cons (pe_bltn (v := .ty "str") (by rfl) m_str (by decide +kernel) rfl) pa_nil))))) (pss_one ps_never) pss_nil)
      (pss_cons (ps_if (pt_cmpR op_eq (pv 1) pe_str (nomark _)) (pss_one (ps_ret (pe_lst pa_nil))) pss_nil)
      (pss_cons (ps_set (i := 2) sc_read.nd rfl (Or.inl rfl) (pe_lst pa_nil))
      (pss_cons (ps_for PassesOwn.never rfl (pi_reversed (by rfl) m_reversed (pa_cons (pe_splitN (pv 1) pe_str) pa_nil)) (pg_name (i := 3) sc_read.nd rfl (Or.inl rfl)) (pss_cons (ps_if (pt_not (pt_val (pc C_is_figures hr (pa_cons (pv 3) pa_nil)))) (pss_one ps_never) pss_nil)
      (pss_one (ps_expr (pe_bm PySem.F.plainAttrs_list PySem.F.slot_list_append PySem.F.type_list_append mt_append (pv 2) (pa_cons (pe_callTy call_intS (by rfl) m_int (by decide +kernel) (pa_cons (pv 3) pa_nil)) pa_nil))))))
      (pss_cons (ps_if (pt_not (pt_val (pc C_is_row hr (pa_cons (pv 0) (pa_cons (pv 2) pa_nil))))) (pss_one ps_never) pss_nil)
      (pss_one (ps_ret (pv 2))))))))), ?_⟩
  show tSeq _ _ _ [some (.int (b : Int)), some (.str line), none, none] H
  have T := Trk.nil H
  walk_at "s"
  refine ⟨_, rfl, hb, t_retV T fun _ T => ?_⟩
  walk_at "s"
  refine x_isi (b := true) (.base (.str line)) (by decide +kernel) ?_
  walk_at "s"
  unfold readB at hB
  unfold readL at q
  by_cases h0 : line = "0"
  · refine ifT (decide_eq_true h0) ?_
    rw [if_pos h0] at q
    walk_at "s"
    refine t_new T (Nat.le_of_ble_eq_true rfl) fun d T => ?_
    exact q.go T 0 rfl
  refine ifF (decide_eq_false h0) ?_
  rw [if_neg h0] at q
  rw [decide_eq_false h0, Bool.false_or, Bool.and_eq_true] at hB
  obtain ⟨hB1, hB2⟩ := hB
  walk_at "s"
  refine t_new T (Nat.le_of_ble_eq_true rfl) fun d T => ?_
  walk_at "s"
  refine x_split (by decide) (by omega) fun c hc => ?_
  have T := T.lay (o := .lst ((wordsOf line).map V.str)) hc
  have hwl : ∀ w ∈ wordsOf line, w.length ≤ 640 := fun w hw => Nat.le_trans (words_len hw) hl
  have hwm := words_many line
  walk_at "s"
  refine RT.for_Itv (xs := (wordsOf line).map V.str) (fun i σ' H' => (∃ y, σ' = [some (.int (b : Int)), some (.str line), some (.ref d), y]) ∧ ((wordsOf line).reverse.take i).all figsB = true ∧ Trk H H' [(c, .lst ((wordsOf line).map V.str)), (d, .lst (iv (((wordsOf line).reverse.take i).map wval)))]) ⟨⟨none, rfl⟩, by rw [List.take_zero]; rfl, T⟩ ?_ ?_ ?_
  · rintro i σ' H' ⟨_, _, T⟩
    exact SqL.of (T.get (i := 0) rfl)
  · clear T
    rintro i v σ' H' hi hx ⟨⟨y, rfl⟩, hall, T⟩
    rw [List.length_map] at hi hx
    obtain ⟨wd, hw, rfl⟩ : ∃ wd, (wordsOf line)[(wordsOf line).length - 1 - i]? = some wd ∧ v = .str wd := by
      rw [List.getElem?_map] at hx
      cases e : (wordsOf line)[(wordsOf line).length - 1 - i]? with
      | none =>
        rw [e] at hx
        cases hx
      | some wd =>
        rw [e] at hx
        exact ⟨wd, rfl, (Option.some.inj hx).symm⟩
    have hmem := List.mem_of_getElem? hw
    have hr : (wordsOf line).reverse[i]? = some wd := by
      rw [List.getElem?_reverse hi]
      exact hw
    have hwd := hwl wd hmem
    walk_at "s"
    refine ⟨wd, rfl, by omega, t_retV T fun _ T => ?_⟩
    have hf : figsB wd = true := List.all_eq_true.mp hB1 wd hmem
    rw [hf]
    walk_at "s"
    refine x_intS (fig_int hf hwd) hwd ?_
    walk_at "s"
    refine t_app (i := 1) T (by exact rfl) (by rw [iv_length, List.length_map, List.length_take, List.length_reverse]; omega) fun T => ?_
    walk_at "s"
    refine ⟨⟨_, rfl⟩, ?_, ?_⟩
    · rw [List.take_add_one, hr, List.all_append, hall]
      show (true && (figsB wd && true)) = true
      rw [hf]
      rfl
    · rw [List.take_add_one, hr, List.map_append, iv_append]
      exact T
  · clear T
    rintro σ' H' ⟨⟨y, rfl⟩, hall, T⟩
    rw [List.take_of_length_le (by rw [List.length_map, List.length_reverse]; exact Nat.le_refl _)] at hall T
    walk_at "s"
    refine ⟨b, _, _, rfl, hb, .inl ⟨d, _, _, rfl, by walk_at "fact", paired_iv _, by rw [List.length_map, List.length_map, List.length_reverse]; omega, rfl⟩, t_retV T fun _ T => ?_⟩
    refine x_bl ?_
    refine ifF (show (!rowB b (somes (rowOf line))) = false by rw [hB2]; rfl) ?_
    walk_at "s"
    exact q.go T 1 rfl

/-! the law's walk -/
local macro_rules | `(tactic| walk_at "len") => `(tactic| first
  | omega
  | assumption
  | (simp only [dig, iv_length, iv_append, List.length_append, List.length_cons, List.length_nil, List.length_replicate, List.length_map, List.length_reverse, List.length_take, List.length_drop]; omega))
local macro_rules | `(tactic| walk_at "l0") => `(tactic| first
  | walk_at "s0"
  | with_reducible refine x_if ?_
  | refine t_new ‹_› (Nat.le_of_ble_eq_true rfl) fun _ _ => ?_
  | refine t_tup ‹_› (Nat.le_of_ble_eq_true rfl) fun _ _ => ?_
  | ((with_reducible show rList1 _ _ _ _); refine t_list ‹_› (by walk_at "fact") fun _ _ => ?_)
  | ((with_reducible refine' x_ix ?k1 ?k2 ?_); (case k1 => walk_at "fact"); (case k2 => first | exact atI_nat (j := 0) rfl | exact atI_nat (j := 1) rfl))
  | ((with_reducible show spDraw _ _ _ _ _); refine ⟨_, _, _, rfl, Trk.sq ‹_› ‹_›, by omega, fun _ => t_retV ‹_› fun _ _ => ?_⟩)
  | ((with_reducible show spIsNumber _ _ _ _); refine ⟨_, rfl, t_retV ‹_› fun _ _ => ?_⟩)
  | ((with_reducible show spLawNumber _ _ _ _); refine ⟨_, _, _, rfl, ‹_›, by walk_at "fact", t_retV ‹_› fun _ _ => ?_⟩)
  | ((with_reducible show spSame _ _ _ _); refine ⟨_, _, _, rfl, by walk_at "fact", by walk_at "fact", by walk_at "len", t_retV ‹_› fun _ _ => ?_⟩)
  | ((with_reducible show rAppend _ _ _ _); first
    | refine t_app (i := 0) ‹_› (by exact rfl) (by walk_at "len") fun _ => ?_
    | refine t_app (i := 1) ‹_› (by exact rfl) (by walk_at "len") fun _ => ?_
    | refine t_app (i := 2) ‹_› (by exact rfl) (by walk_at "len") fun _ => ?_
    | refine t_app (i := 3) ‹_› (by exact rfl) (by walk_at "len") fun _ => ?_
    | refine t_app (i := 4) ‹_› (by exact rfl) (by walk_at "len") fun _ => ?_
    | refine t_app (i := 5) ‹_› (by exact rfl) (by walk_at "len") fun _ => ?_
    | refine t_app (i := 6) ‹_› (by exact rfl) (by walk_at "len") fun _ => ?_
    | refine t_app (i := 7) ‹_› (by exact rfl) (by walk_at "len") fun _ => ?_
    | refine t_app (i := 8) ‹_› (by exact rfl) (by walk_at "len") fun _ => ?_
    | refine t_app (i := 9) ‹_› (by exact rfl) (by walk_at "len") fun _ => ?_))
local macro_rules | `(tactic| walk_at "l1") => `(tactic| first | with_reducible refine x_seq ?_ | walk_at "l0")
local macro_rules | `(tactic| walk_at "le") => `(tactic| repeat (walk_at "l0"))
local macro_rules | `(tactic| walk_at "l") => `(tactic| repeat (walk_at "l1"))

/-! ### the law's helpers over texts -/
abbrev s__law_word_by : Stmt := topS 24
theorem sc__law_word_by : FnScope ["_law_base", "_law_cell", "_law_some"] ["_law_base", "_law_cell"] (defScope s__law_word_by) := ⟨rfl, rfl, rfl, by decide +kernel, rfl, by decide +kernel, by decide +kernel⟩
def spWordBy : Sp := fun vs H Q _ => ∃ (b : Nat) (ce : Int), vs = [.int (b : Int), .int ce] ∧ (2 ≤ b ∧ b ≤ 1000000) ∧ ∀ w : Str, w.length ≤ 60 → RetV (.str w) H Q
theorem odd_word {u : Str} (hu : u.length ≤ 60) (k : Int) (hk : 0 ≤ k ∧ k < 14) : ∃ w : Str, atI [V.str "", .str "00", .str "01", .str "-1", .str "+1", .str " 1", .str "1 ", .str "1_0", .str "a", .str "0x1", .str "1,0", .str "0", .str u, .str "7\n"] k = some (.str w) ∧ w.length ≤ 60 := by
  have h4 : k = 0 ∨ k = 1 ∨ k = 2 ∨ k = 3 ∨ k = 4 ∨ k = 5 ∨ k = 6 ∨ k = 7 ∨ k = 8 ∨ k = 9 ∨ k = 10 ∨ k = 11 ∨ k = 12 ∨ k = 13 := by omega
  rcases h4 with rfl | rfl | rfl | rfl | rfl | rfl | rfl | rfl | rfl | rfl | rfl | rfl | rfl | rfl
  · exact ⟨_, atI_nat (j := 0) rfl, by decide +kernel⟩
  · exact ⟨_, atI_nat (j := 1) rfl, by decide +kernel⟩
  · exact ⟨_, atI_nat (j := 2) rfl, by decide +kernel⟩
  · exact ⟨_, atI_nat (j := 3) rfl, by decide +kernel⟩
  · exact ⟨_, atI_nat (j := 4) rfl, by decide +kernel⟩
  · exact ⟨_, atI_nat (j := 5) rfl, by decide +kernel⟩
  · exact ⟨_, atI_nat (j := 6) rfl, by decide +kernel⟩
  · exact ⟨_, atI_nat (j := 7) rfl, by decide +kernel⟩
  · exact ⟨_, atI_nat (j := 8) rfl, by decide +kernel⟩
  · exact ⟨_, atI_nat (j := 9) rfl, by decide +kernel⟩
  · exact ⟨_, atI_nat (j := 10) rfl, by decide +kernel⟩
  · exact ⟨_, atI_nat (j := 11) rfl, by decide +kernel⟩
  · exact ⟨_, atI_nat (j := 12) rfl, hu⟩
  · exact ⟨_, atI_nat (j := 13) rfl, by decide +kernel⟩
theorem ok_law_word_by {P : Program} {w : World} {K : PySem.W.Frag} {mg : Str → Option Value} {base : Heap} (D : Dfn K mg "_law_word_by" s__law_word_by) (m_str : mg "str" = none) : Cal P w K mg base CX0 "_law_word_by" 1 (["_law_base", "_law_cell"]) spWordBy := by
  refine cal0 D sc__law_word_by (fun _ _ _ _ _ _ us hl => match us, hl with | [_, _], _ => rfl) (fun vs H Q E h => ?_) (fun f cdv A outer s H vs Q E hr h => ?_)
  · obtain ⟨b, ce, rfl, _⟩ := h
    rfl
  obtain ⟨b, ce, rfl, hb, q⟩ := h
  refine ⟨_, (pss_cons (ps_if (pt_cmpR op_eq (pe_op op_mod (pv 1) pe_int) pe_int (nomark _)) (pss_one (ps_ret (pe_callTy call_strI (by rfl) m_str (by decide +kernel) (pa_cons (pe_op op_mod (pe_op op_fdiv (pv 1) pe_int) (pe_op op_add (pv 0) pe_int)) pa_nil)))) pss_nil)
      (pss_cons (ps_if (pt_cmpR op_eq (pe_op op_mod (pv 1) pe_int) pe_int (nomark _)) (pss_one (ps_ret (pe_callTy call_strI (by rfl) m_str (by decide +kernel) (pa_cons (pe_op op_mod (pe_op op_fdiv (pv 1) pe_int) (pv 0)) pa_nil)))) pss_nil)
      (pss_cons (ps_set (i := 2) sc__law_word_by.nd rfl (Or.inl rfl) (pe_lst (pa_cons pe_str (pa_cons pe_str (pa_cons pe_str (pa_cons pe_str (pa_cons pe_str (pa_cons pe_str (pa_cons pe_str (pa_cons pe_str (pa_cons pe_str (pa_cons pe_str (pa_cons pe_str (pa_cons pe_str (pa_cons (pe_op op_mulS pe_str pe_int) (pa_cons pe_str pa_nil))))))))))))))))
      (pss_one (ps_ret (pe_ix ix_list (pv 2) (pe_op op_mod (pe_op op_fdiv (pv 1) pe_int) pe_int) (fun _ _ => rfl))))))), ?_⟩
  show tSeq _ _ _ [some (.int (b : Int)), some (.int ce), none] H
  have T := Trk.nil H
  have num : ∀ (m : Nat), 1 ≤ m → m ≤ 2000000 → rStrI [.int (ce / 3 % (m : Int))] H Q := fun m h1 h2 => by
    obtain ⟨u, hu, hub⟩ : ∃ u : Nat, ce / 3 % (m : Int) = (u : Int) ∧ u < m := by
      have e1 := Int.emod_nonneg (ce / 3) (b := (m : Int)) (by omega)
      have e2 := Int.emod_lt_of_pos (ce / 3) (b := (m : Int)) (by omega)
      exact ⟨(ce / 3 % (m : Int)).toNat, by omega, by omega⟩
    rw [hu]
    refine x_strI (by omega) ?_
    exact q (numS u) (Nat.le_trans (numS_len (by omega)) (by decide)) H (Same.refl H)
  walk_at "s"
  refine x_I (by decide) ?_
  walk_at "s"
  refine if2 (fun h1 => ?_) (fun h1 => ?_)
  · walk_at "s"
    refine x_I ⟨by decide, by decide⟩ ?_
    walk_at "s"
    refine x_I (show (0 : Int) < (b : Int) + 2 by omega) ?_
    have := num (b + 2) (by omega) (by omega)
    rw [Int.natCast_add] at this
    exact this
  walk_at "s"
  refine x_I (by decide) ?_
  walk_at "s"
  refine if2 (fun h1 => ?_) (fun h1 => ?_)
  · walk_at "s"
    refine x_I ⟨by decide, by decide⟩ ?_
    walk_at "s"
    refine x_I (show (0 : Int) < (b : Int) by omega) ?_
    exact num b (by omega) (by omega)
  walk_at "s"
  refine ⟨"1", 60, rfl, rfl, by decide, by decide, by decide +kernel, ?_⟩
  walk_at "s"
  refine t_new T (Nat.le_of_ble_eq_true rfl) fun p T => ?_
  walk_at "s"
  refine x_I ⟨by decide, by decide⟩ ?_
  walk_at "s"
  refine x_I (by decide) ?_
  obtain ⟨wd, e, hw⟩ := odd_word (u := repS "1" 60) (by decide +kernel) (ce / 3 % 14) ⟨by omega, by omega⟩
  exact x_ix (T.get (i := 0) rfl) e (q wd hw _ T.same)
abbrev s__law_line_by : Stmt := topS 25
theorem sc__law_line_by : FnScope ["_law_script", "_law_base", "_law_line", "_law_k", "_law_cell"] ["_law_script", "_law_base"] (defScope s__law_line_by) := ⟨rfl, rfl, rfl, by decide +kernel, rfl, by decide +kernel, by decide +kernel⟩
def spLineBy (K : PySem.W.Frag) : Sp := fun vs H Q _ => ∃ (a : Addr) (ns : List Int) (b : Nat), vs = [.ref a, .int (b : Int)] ∧ SqL K H a (ns.map V.int) ∧ (2 ≤ b ∧ b ≤ 1000000) ∧ ∀ l : Str, l.length ≤ 300 → RetV (.str l) H Q
theorem some_sep (k : Int) (hk : 0 ≤ k ∧ k < 12) : ∃ w : Str, atI [V.str ".", .str ".", .str ".", .str ".", .str ".", .str ".", .str ".", .str ".", .str ",", .str "..", .str ".", .str " "] k = some (.str w) ∧ w.length ≤ 2 := by
  have h4 : k = 0 ∨ k = 1 ∨ k = 2 ∨ k = 3 ∨ k = 4 ∨ k = 5 ∨ k = 6 ∨ k = 7 ∨ k = 8 ∨ k = 9 ∨ k = 10 ∨ k = 11 := by omega
  rcases h4 with rfl | rfl | rfl | rfl | rfl | rfl | rfl | rfl | rfl | rfl | rfl | rfl
  · exact ⟨_, atI_nat (j := 0) rfl, by decide +kernel⟩
  · exact ⟨_, atI_nat (j := 1) rfl, by decide +kernel⟩
  · exact ⟨_, atI_nat (j := 2) rfl, by decide +kernel⟩
  · exact ⟨_, atI_nat (j := 3) rfl, by decide +kernel⟩
  · exact ⟨_, atI_nat (j := 4) rfl, by decide +kernel⟩
  · exact ⟨_, atI_nat (j := 5) rfl, by decide +kernel⟩
  · exact ⟨_, atI_nat (j := 6) rfl, by decide +kernel⟩
  · exact ⟨_, atI_nat (j := 7) rfl, by decide +kernel⟩
  · exact ⟨_, atI_nat (j := 8) rfl, by decide +kernel⟩
  · exact ⟨_, atI_nat (j := 9) rfl, by decide +kernel⟩
  · exact ⟨_, atI_nat (j := 10) rfl, by decide +kernel⟩
  · exact ⟨_, atI_nat (j := 11) rfl, by decide +kernel⟩
theorem ok_law_line_by {P : Program} {w : World} {K : PySem.W.Frag} {mg : Str → Option Value} {base : Heap} (D : Dfn K mg "_law_line_by" s__law_line_by) (m_range : mg "range" = none) (C__law_draw : Cal P w K mg base CX0 "_law_draw" 1 ["_law_script", "_law_k"] (spDraw K)) (C__law_word_by : Cal P w K mg base CX0 "_law_word_by" 1 (["_law_base", "_law_cell"]) spWordBy) : Cal P w K mg base CX0 "_law_line_by" 2 (["_law_script", "_law_base"]) (spLineBy K) := by
  refine cal0 D sc__law_line_by (fun _ _ _ _ _ _ us hl => match us, hl with | [_, _], _ => rfl) (fun vs H Q E h => ?_) (fun f cdv A outer s H vs Q E hr h => ?_)
  · obtain ⟨a, ns, b, rfl, _⟩ := h
    rfl
  obtain ⟨a, ns, b, rfl, ha, hb, q⟩ := h
  refine ⟨_, (pss_cons (ps_set (i := 2) sc__law_line_by.nd rfl (Or.inl rfl) pe_str)
      (pss_cons (ps_for PassesOwn.never rfl (pi_range1 (by rfl) m_range (pa_cons (pe_op op_mod (pc C__law_draw hr (pa_cons (pv 0) (pa_cons pe_int pa_nil))) pe_int) pa_nil)) (pg_name (i := 3) sc__law_line_by.nd rfl (Or.inl rfl)) (pss_cons (ps_set (i := 4) sc__law_line_by.nd rfl (Or.inl rfl) (pc C__law_draw hr (pa_cons (pv 0) (pa_cons (pe_op op_add pe_int (pv 3)) pa_nil))))
      (pss_cons (ps_if (pt_cmpR op_gt (pv 3) pe_int (nomark _)) (pss_one (ps_set (i := 2) sc__law_line_by.nd rfl (Or.inl rfl) (pe_op op_addS (pv 2) (pe_ix ix_list (pe_lst (pa_cons pe_str (pa_cons pe_str (pa_cons pe_str (pa_cons pe_str (pa_cons pe_str (pa_cons pe_str (pa_cons pe_str (pa_cons pe_str (pa_cons pe_str (pa_cons pe_str (pa_cons pe_str (pa_cons pe_str pa_nil))))))))))))) (pe_op op_mod (pv 4) pe_int) (fun _ _ => rfl))))) pss_nil)
      (pss_one (ps_set (i := 2) sc__law_line_by.nd rfl (Or.inl rfl) (pe_op op_addS (pv 2) (pc C__law_word_by hr (pa_cons (pv 1) (pa_cons (pe_op op_fdiv (pv 4) pe_int) pa_nil)))))))))
      (pss_one (ps_ret (pv 2))))), ?_⟩
  show tSeq _ _ _ [some (.ref a), some (.int (b : Int)), none, none, none] H
  have T := Trk.nil H
  walk_at "s"
  refine ⟨_, _, _, rfl, ha, by omega, fun z => t_retV T fun _ T => ?_⟩
  walk_at "s"
  refine x_I (by decide) ?_
  walk_at "s"
  refine for_range (fun i σ' H' => ∃ (line : Str) (y1 y2 : Option V), σ' = [some (.ref a), some (.int (b : Int)), some (.str line), y1, y2] ∧ line.length ≤ 62 * i ∧ Trk H H' []) ⟨"", none, none, rfl, Nat.zero_le _, T⟩ ?_ ?_
  · clear T
    rintro i σ' H' hi ⟨line, y1, y2, rfl, hl, T⟩
    rw [Int.zero_add]
    walk_at "s"
    refine ⟨_, _, _, rfl, T.sq ha, by omega, fun ce => t_retV T fun _ T => ?_⟩
    walk_at "e"
    with_reducible refine x_seq ?_
    refine x_mid (fun σ' H' => ∃ line : Str, σ' = [some (.ref a), some (.int (b : Int)), some (.str line), some (.int (i : Int)), some (.int ce)] ∧ line.length ≤ 62 * i + 2 ∧ Trk H H' []) ?_ ?_
    · intro R hk
      walk_at "s"
      refine if2 (fun h1 => ?_) (fun h1 => ?_)
      · walk_at "s"
        refine t_new T (Nat.le_of_ble_eq_true rfl) fun p T => ?_
        walk_at "s"
        refine x_I (by decide) ?_
        obtain ⟨wd, e, hw⟩ := some_sep (ce % 12) ⟨by omega, by omega⟩
        refine x_ix (T.get (i := 0) rfl) e ?_
        refine ⟨line, wd, rfl, rfl, sz (by omega), ?_⟩
        walk_at "s"
        exact hk _ _ ⟨line ++ wd, rfl, by rw [app_len]; omega, T.take 0⟩
      · walk_at "s"
        exact hk _ _ ⟨line, rfl, by omega, T⟩
    clear T
    rintro σ' H2 ⟨line2, rfl, hl2, T⟩
    walk_at "s"
    refine x_I ⟨by decide, by decide⟩ ?_
    walk_at "s"
    refine ⟨b, _, rfl, hb, fun wd hw => t_retV T fun _ T => ?_⟩
    refine ⟨line2, wd, rfl, rfl, sz (by omega), ?_⟩
    walk_at "s"
    exact ⟨line2 ++ wd, _, _, rfl, by rw [app_len]; omega, T⟩
  · clear T
    rintro σ' H' ⟨line, y1, y2, rfl, hl, T⟩
    walk_at "s"
    exact (q line (by omega)).go T
abbrev s__law_sign_by : Stmt := topS 26
theorem sc__law_sign_by : FnScope ["_law_cell", "_law_some"] ["_law_cell"] (defScope s__law_sign_by) := ⟨rfl, rfl, rfl, by decide +kernel, rfl, by decide +kernel, by decide +kernel⟩
theorem x_addG {i j : Str} {H : Hp} {Q : VK} (h1 : i.length + j.length ≤ 1000) (h2 : 0 < i.length) (k : ∀ x : Str, 0 < x.length ∧ x.length ≤ 1000 → Q (.str x) H) : rAddS (.str i) (.str j) H Q :=
  ⟨i, j, rfl, rfl, sz (by omega), k (i ++ j) (by rw [app_len]; omega)⟩
def spSignBy : Sp := fun vs H Q _ => ∃ (ce : Int), vs = [.int ce] ∧ ∀ c : Nat, RetV (.str ⟨#[c]⟩) H Q
theorem ok_law_sign_by {P : Program} {w : World} {K : PySem.W.Frag} {mg : Str → Option Value} {base : Heap} (D : Dfn K mg "_law_sign_by" s__law_sign_by) (m_len : mg "len" = none) : Cal P w K mg base CX0 "_law_sign_by" 1 (["_law_cell"]) spSignBy := by
  refine cal0 D sc__law_sign_by (fun _ _ _ _ _ _ us hl => match us, hl with | [_], _ => rfl) (fun vs H Q E h => ?_) (fun f cdv A outer s H vs Q E hr h => ?_)
  · obtain ⟨ce, rfl, _⟩ := h
    rfl
  obtain ⟨ce, rfl, q⟩ := h
  refine ⟨_, (pss_cons (ps_set (i := 1) sc__law_sign_by.nd rfl (Or.inl rfl) pe_str)
      (pss_cons (ps_set (i := 1) sc__law_sign_by.nd rfl (Or.inl rfl) (pe_op op_addS (pv 1) pe_str))
      (pss_one (ps_ret (pe_ix ix_str (pv 1) (pe_op op_mod (pv 0) (pe_callB call_len_str (by rfl) m_len PySem.boot_len (pa_cons (pv 1) pa_nil))) (fun _ _ => rfl)))))), ?_⟩
  show tSeq _ _ _ [some (.int ce), none] H
  have T := Trk.nil H
  walk_at "s"
  refine' x_addG ?h1 ?h2 (fun x hlen => ?_)
  · decide +kernel
  · decide +kernel
  walk_at "s"
  refine ⟨x, rfl, sz (by omega), ?_⟩
  walk_at "s"
  refine x_I (show (0 : Int) < (x.length : Int) by omega) ?_
  obtain ⟨u, hu, hub⟩ : ∃ u : Nat, ce % (x.length : Int) = (u : Int) ∧ u < x.length := by
    have e1 := Int.emod_nonneg ce (b := (x.length : Int)) (by omega)
    have e2 := Int.emod_lt_of_pos ce (b := (x.length : Int)) (by omega)
    exact ⟨(ce % (x.length : Int)).toNat, by omega, by omega⟩
  rw [hu]
  have hu2 : u < x.cps.toList.length := by
    rw [Array.length_toList]
    exact hub
  exact x_ixC (by omega) (atI_nat (List.getElem?_eq_getElem hu2)) ((q _).go T)
abbrev s__law_refused : Stmt := topS 28
theorem sc__law_refused : FnScope ["_law_base", "_law_line", "e"] ["_law_base", "_law_line"] (defScope s__law_refused) := ⟨rfl, rfl, rfl, by decide +kernel, rfl, by decide +kernel, by decide +kernel⟩
def spRefused : Sp := fun vs H Q _ => ∃ (b : Nat) (y : V), vs = [.int (b : Int), y] ∧ (2 ≤ b ∧ b ≤ 1000000) ∧ (NoS H y ∨ ∃ line : Str, y = .str line ∧ line.length ≤ 640 ∧ readB b line = false) ∧ RetV (.bl true) H Q
theorem read_bad {K : PySem.W.Frag} {H : Hp} {b : Nat} {y : V} {Q : VK} {E : XK} (hb : 2 ≤ b ∧ b ≤ 1000000) (hy : NoS H y ∨ ∃ line : Str, y = .str line ∧ line.length ≤ 640 ∧ readB b line = false) (hE : RaiseE K E "NoRow" H) : spReadE K [.int (b : Int), y] H Q E := by
  refine ⟨_, y, rfl, .inr ⟨b, rfl, hb, ?_⟩⟩
  rcases hy with hn | ⟨line, rfl, hl, hf⟩
  · exact .inl ⟨hn, hE⟩
  · exact .inr ⟨line, rfl, hl, fun _ => hE, fun z => absurd (hf.symm.trans z) Bool.false_ne_true⟩
theorem ok_law_refused {P : Program} {w : World} {K : PySem.W.Frag} {mg : Str → Option Value} {base : Heap} (D : Dfn K mg "_law_refused" s__law_refused) (g_RowError : mg "RowError" = some (.ref (He.ga K "RowError"))) (m_isinstance : mg "isinstance" = none) (m_ValueError : mg "ValueError" = none) (g_NoRow : mg "NoRow" = some (.ref (He.ga K "NoRow"))) (e_NoRow_RowError : PySem.W.exmOne K (.ref (He.ga K "NoRow")) (.ref (He.ga K "RowError")) = some true) (i_NoRow : ExcC K (He.ga K "NoRow")) (kt_NoRow_ValueError : PySem.W.kitOne K (.ref (He.ga K "NoRow")) (.type "ValueError") = some true) (k_NoRow_NoRow : PySem.W.kitOne K (.ref (He.ga K "NoRow")) (.ref (He.ga K "NoRow")) = some true) (CX_read : Cal P w K mg base (L2.CX P w) "read" 7 (["base", "line"]) (spReadE K)) : Cal P w K mg base CX0 "_law_refused" 8 (["_law_base", "_law_line"]) spRefused := by
  refine cal0 D sc__law_refused (fun _ _ _ _ _ _ us hl => match us, hl with | [_, _], _ => rfl) (fun vs H Q E h => ?_) (fun f cdv A outer s H vs Q E hr h => ?_)
  · obtain ⟨b, y, rfl, _⟩ := h
    rfl
  obtain ⟨b, y, rfl, hb, hy, q⟩ := h
  refine ⟨_, (pss_cons (ps_tryA (i := 2) ⟨rfl, by decide, .inl g_RowError⟩ rfl rfl sc__law_refused.nd rfl rfl takes0 (fun W pn xe tk passT => (pss_one (ps_expr (pcS CX_read hr tk (pa_cons (pv 0) (pa_cons (pv 1) pa_nil)))))) (fun a oe cls d pn hz hf => pss_exc hz fun Dc hC hZ => (pss_one (ps_ret (pe_and (pe_callB (call_isE hC hZ hf) (by rfl) m_isinstance (by decide +kernel) (pa_cons (pv 2) (pa_cons (pe_glob (v := .ref (He.ga K "NoRow")) (by rfl) g_NoRow rfl) pa_nil))) (pe_one (pe_callB (call_isE hC hZ hf) (by rfl) m_isinstance (by decide +kernel) (pa_cons (pv 2) (pa_cons (pe_bltn (v := .ty "ValueError") (by rfl) m_ValueError (by decide +kernel) rfl) pa_nil)))))))))
      (pss_one (ps_ret pe_bl))), ?_⟩
  show tSeq _ _ _ [some (.int (b : Int)), some y, none] H
  walk_at "s"
  refine x_tryA ?_
  walk_at "s"
  refine x_callS ?_
  walk_at "s"
  refine read_bad hb hy ?_
  intro H' s
  refine w_as e_NoRow_RowError fun a _ => x_exc i_NoRow ?_
  walk_at "s"
  refine x_isE k_NoRow_NoRow rel_ref ?_
  walk_at "s"
  refine x_isE kt_NoRow_ValueError rel_ty ?_
  exact q _ s

abbrev s__law_due_of : Stmt := topS 27
theorem sc__law_due_of : FnScope ["_law_base", "_law_line", "_law_row", "_law_word", "_law_sign"] ["_law_base", "_law_line"] (defScope s__law_due_of) := ⟨rfl, rfl, rfl, by decide +kernel, rfl, by decide +kernel, by decide +kernel⟩
def spDueOf : Sp := fun vs H Q _ => ∃ (b : Nat) (line : Str), vs = [.int (b : Int), .str line] ∧ (2 ≤ b ∧ b ≤ 1000000) ∧ line.length ≤ 640 ∧ (readB b line = true → RetL (iv (readL line)) H Q) ∧ (readB b line = false → RetV .non H Q)
theorem words_ne (line : Str) : wordsOf line ≠ [] := fun e => by
  have h := StrLaws.join_split line "."
  have e2 : Txt.split line "." = [] := e
  rw [e2] at h
  have h2 : line = "" := h.symm
  rw [h2] at e
  revert e
  decide +kernel
theorem not_figs {b : Nat} {line wd : Str} (h0 : line ≠ "0") (hm : wd ∈ wordsOf line) (h : figsB wd = false) : readB b line = false := by
  unfold readB
  have : (wordsOf line).all figsB = false := by
    cases hq : (wordsOf line).all figsB with
    | false => rfl
    | true =>
      have h2 := List.all_eq_true.mp hq wd hm
      rw [h] at h2
      cases h2
  rw [decide_eq_false h0, this]
  rfl
theorem not_lt {b : Nat} {line wd : Str} (h0 : line ≠ "0") (hm : wd ∈ wordsOf line) (h : b ≤ wval wd) : readB b line = false := by
  unfold readB
  have h1 : figB b (some (wval wd : Int)) = false := by
    show (decide (0 ≤ (wval wd : Int)) && decide ((wval wd : Int) < (b : Int))) = false
    rw [decide_eq_false (by omega : ¬ (wval wd : Int) < (b : Int)), Bool.and_false]
  have : (somes (rowOf line)).all (figB b) = false := by
    cases hq : (somes (rowOf line)).all (figB b) with
    | false => rfl
    | true =>
      have h2 := List.all_eq_true.mp hq (some (wval wd : Int)) (List.mem_map.mpr ⟨wval wd, List.mem_map.mpr ⟨wd, List.mem_reverse.mpr hm, rfl⟩, rfl⟩)
      rw [h1] at h2
      cases h2
  unfold rowB
  rw [decide_eq_false h0, this, Bool.false_and, Bool.and_false]
  rfl
theorem figs_empty : figsB "" = false := by decide +kernel
theorem cons_of {w : Str} (h : w ≠ "") : ∃ c r, w.cps.toList = c :: r ∧ hd1 w = ⟨#[c]⟩ := by
  cases e : w.cps.toList with
  | nil => exact absurd (str_nil e) h
  | cons c r =>
    refine ⟨c, r, rfl, ?_⟩
    unfold hd1
    rw [e]
set_option maxHeartbeats 4000000 in
theorem ok_law_due_of {P : Program} {w : World} {K : PySem.W.Frag} {mg : Str → Option Value} {base : Heap} (D : Dfn K mg "_law_due_of" s__law_due_of) (m_int : mg "int" = none) : Cal P w K mg base CX0 "_law_due_of" 1 (["_law_base", "_law_line"]) spDueOf := by
  refine cal0 D sc__law_due_of (fun _ _ _ _ _ _ us hl => match us, hl with | [_, _], _ => rfl) (fun vs H Q E h => ?_) (fun f cdv A outer s H vs Q E hr h => ?_)
  · obtain ⟨b, line, rfl, _⟩ := h
    rfl
  obtain ⟨b, line, rfl, hb, hl, q1, q2⟩ := h
  refine ⟨_, (pss_cons (ps_if (pt_cmpR op_eq (pv 1) pe_str (nomark _)) (pss_one (ps_ret (pe_lst pa_nil))) pss_nil)
      (pss_cons (ps_set (i := 2) sc__law_due_of.nd rfl (Or.inl rfl) (pe_lst pa_nil))
      (pss_cons (ps_for PassesOwn.never rfl (pi_list (pe_splitN (pv 1) pe_str)) (pg_name (i := 3) sc__law_due_of.nd rfl (Or.inl rfl)) (pss_cons (ps_if (PW.pt (pw_or (pt_cmpR op_eq (pv 3) pe_str (nomark _)) (pw_or1 (PW.pt (pw_and (pt_cmpR op_eq (pe_ix ix_str (pv 3) pe_int (fun _ _ => rfl)) pe_str (nomark _)) (pw_and1 (pt_cmpR op_ne (pv 3) pe_str (nomark _)))))))) (pss_one (ps_ret pe_non)) pss_nil)
      (pss_cons (ps_for PassesOwn.never rfl (pi_str (pv 3)) (pg_name (i := 4) sc__law_due_of.nd rfl (Or.inl rfl)) (pss_one (ps_if (pt_cmpR op_notInS (pv 4) pe_str (by rfl)) (pss_one (ps_ret pe_non)) pss_nil)))
      (pss_cons (ps_if (pt_cmpR op_ge (pe_callTy call_intS (by rfl) m_int (by decide +kernel) (pa_cons (pv 3) pa_nil)) (pv 0) (nomark _)) (pss_one (ps_ret pe_non)) pss_nil)
      (pss_one (ps_set (i := 2) sc__law_due_of.nd rfl (Or.inl rfl) (pe_op op_cat (pe_lst (pa_cons (pe_callTy call_intS (by rfl) m_int (by decide +kernel) (pa_cons (pv 3) pa_nil)) pa_nil)) (pv 2))))))))
      (pss_one (ps_ret (pe_ifExp (pt_cmpR op_ne (pe_ix ix_list (pv 2) (pe_un un_neg pe_int) (fun _ _ => rfl)) pe_int (nomark _)) (pv 2) pe_non)))))), ?_⟩
  show tSeq _ _ _ [some (.int (b : Int)), some (.str line), none, none, none] H
  have T := Trk.nil H
  walk_at "s"
  by_cases h0 : line = "0"
  · refine ifT (decide_eq_true h0) ?_
    have hB : readB b line = true := by rw [h0]; exact readB_zero
    have hL : readL line = [] := by unfold readL; rw [if_pos h0]
    rw [hL] at q1
    walk_at "s"
    refine t_new T (Nat.le_of_ble_eq_true rfl) fun d T => ?_
    exact (q1 hB).go T 0 rfl
  refine ifF (decide_eq_false h0) ?_
  have hL : readL line = rowOf line := by unfold readL; rw [if_neg h0]
  rw [hL] at q1
  have none_ : ∀ {H' : Hp} {L : List (Addr × HO)}, Trk H H' L → readB b line = false → Q .non H' := fun T h => (q2 h).go T
  walk_at "s"
  refine t_new T (Nat.le_of_ble_eq_true rfl) fun d T => ?_
  walk_at "s"
  refine x_split (by decide) (by omega) fun c hc => ?_
  have T := T.lay (o := .lst ((wordsOf line).map V.str)) hc
  have hwl : ∀ w ∈ wordsOf line, w.length ≤ 640 := fun w hw => Nat.le_trans (words_len hw) hl
  have hwm := words_many line
  walk_at "s"
  refine for_list (xs := (wordsOf line).map V.str) (fun i σ' H' => ∃ (d : Addr) (y3 y4 : Option V), σ' = [some (.int (b : Int)), some (.str line), some (.ref d), y3, y4] ∧ ((wordsOf line).take i).all figsB = true ∧ AllLt b (((wordsOf line).take i).map wval) ∧ Trk H H' [(c, .lst ((wordsOf line).map V.str)), (d, .lst (iv (((wordsOf line).take i).reverse.map wval)))]) ⟨d, none, none, rfl, by rw [List.take_zero]; rfl, by rw [List.take_zero]; exact AllLt.nil, T⟩ ?_ ?_ ?_
  · rintro i σ' H' _ ⟨_, _, _, _, _, _, T⟩
    exact SqL.of (T.get (i := 0) rfl)
  · clear T
    rintro i v σ' H' hx ⟨d, y3, y4, rfl, hall, hlt, T⟩
    obtain ⟨wd, hw, rfl⟩ : ∃ wd, (wordsOf line)[i]? = some wd ∧ v = .str wd := by
      rw [List.getElem?_map] at hx
      cases e : (wordsOf line)[i]? with
      | none =>
        rw [e] at hx
        cases hx
      | some wd =>
        rw [e] at hx
        exact ⟨wd, rfl, (Option.some.inj hx).symm⟩
    have hmem := List.mem_of_getElem? hw
    have hwd := hwl wd hmem
    have hil : i < (wordsOf line).length := by
      have := (List.getElem?_eq_some_iff.mp hw).1
      exact this
    walk_at "e"
    with_reducible refine x_seq ?_
    refine x_mid (fun σ' H' => σ' = [some (.int (b : Int)), some (.str line), some (.ref d), some (.str wd), y4] ∧ Trk H H' [(c, .lst ((wordsOf line).map V.str)), (d, .lst (iv (((wordsOf line).take i).reverse.map wval)))] ∧ (decide (wd = "0") || (!decide (wd = "") && !decide (hd1 wd = "0"))) = true) ?_ ?_
    · intro R hk
      walk_at "s"
      by_cases h1 : wd = ""
      · refine ifT (decide_eq_true h1) ?_
        walk_at "s"
        exact none_ T (not_figs h0 hmem (by rw [h1]; exact figs_empty))
      refine ifF (decide_eq_false h1) ?_
      obtain ⟨k, r, hcr, hh⟩ := cons_of h1
      walk_at "s"
      refine x_ixC (c := k) (by omega) (by rw [hcr]; exact atI_nat (j := 0) rfl) ?_
      walk_at "s"
      rw [← hh]
      by_cases h2 : hd1 wd = "0"
      · refine ifT (decide_eq_true h2) ?_
        walk_at "s"
        by_cases h3 : wd = "0"
        · refine ifF (by rw [decide_eq_true h3]; rfl) ?_
          walk_at "s"
          exact hk _ _ ⟨rfl, T, by rw [decide_eq_true h3, Bool.true_or]⟩
        · refine ifT (by rw [decide_eq_false h3]; rfl) ?_
          walk_at "s"
          refine none_ T (not_figs h0 hmem ?_)
          unfold figsB
          rw [decide_eq_false h3, decide_eq_true h2, Bool.not_true, Bool.and_false, Bool.or_false, Bool.and_false]
      · refine ifF (decide_eq_false h2) ?_
        walk_at "s"
        exact hk _ _ ⟨rfl, T, by rw [decide_eq_false h1, decide_eq_false h2, Bool.not_false, Bool.and_true, Bool.or_true]⟩
    clear T
    rintro σ' H1 ⟨rfl, T, hgood⟩
    walk_at "s"
    have hsz : wd.cps.toList.length = wd.cps.size := Array.length_toList
    refine for_str (fun j σ' H' => (∃ y, σ' = [some (.int (b : Int)), some (.str line), some (.ref d), some (.str wd), y]) ∧ Trk H H' [(c, .lst ((wordsOf line).map V.str)), (d, .lst (iv (((wordsOf line).take i).reverse.map wval)))] ∧ (wd.cps.toList.take j).all (fun c => decide (c ∈ SIG.cps.toList)) = true) ⟨⟨y4, rfl⟩, T, by rw [List.take_zero]; rfl⟩ ?_ ?_
    · clear T
      rintro j k σ' H' hk ⟨⟨y, rfl⟩, T, hsig⟩
      have hk2 : wd.cps.toList[j]? = some k := by rw [Array.getElem?_toList]; exact hk
      walk_at "s"
      refine if2 (fun h1 => ?_) (fun h1 => ?_)
      · walk_at "s"
        refine none_ T (not_figs h0 hmem ?_)
        unfold figsB
        have : wd.cps.toList.all (fun c => decide (c ∈ SIG.cps.toList)) = false := by
          cases hq : wd.cps.toList.all (fun c => decide (c ∈ SIG.cps.toList)) with
          | false => rfl
          | true =>
            have h2 := List.all_eq_true.mp hq k (List.mem_of_getElem? hk2)
            have h3 : (!decide (k ∈ SIG.cps.toList)) = true := h1
            rw [h2] at h3
            cases h3
        rw [this, Bool.false_and]
      · walk_at "s"
        refine ⟨⟨_, rfl⟩, T, ?_⟩
        have h3 : (!decide (k ∈ SIG.cps.toList)) = false := h1
        rw [List.take_add_one, hk2, List.all_append, hsig]
        show (true && (decide (k ∈ SIG.cps.toList) && true)) = true
        cases hd : decide (k ∈ SIG.cps.toList) with
        | true => rfl
        | false =>
          rw [hd] at h3
          cases h3
    · clear T
      rintro σ' H' ⟨⟨y, rfl⟩, T, hsig⟩
      rw [List.take_of_length_le (by omega)] at hsig
      have hf : figsB wd = true := by
        unfold figsB
        rw [hsig, hgood]
        rfl
      walk_at "s"
      refine x_intS (fig_int hf hwd) hwd ?_
      walk_at "s"
      refine if2 (fun h1 => ?_) (fun h1 => ?_)
      · have h2 : (wval wd : Int) ≥ (b : Int) := of_decide_eq_true h1
        walk_at "s"
        exact none_ T (not_lt h0 hmem (by omega))
      · have h2 : ¬ (wval wd : Int) ≥ (b : Int) := of_decide_eq_false h1
        walk_at "s"
        refine x_intS (fig_int hf hwd) hwd ?_
        walk_at "s"
        refine t_new T (Nat.le_of_ble_eq_true rfl) fun p T => ?_
        walk_at "s"
        refine t_cat (xs := [V.int ((wval wd : Nat) : Int)]) (ys := iv (((wordsOf line).take i).reverse.map wval)) T (by walk_at "fact") (by walk_at "fact") (by rw [iv_length, List.length_map, List.length_reverse, List.length_take]; show 1 + _ ≤ _; omega) fun p2 T => ?_
        walk_at "s"
        refine ⟨p2, _, _, rfl, ?_, ?_, ?_⟩
        · rw [List.take_add_one, hw, List.all_append, hall]
          show (true && (figsB wd && true)) = true
          rw [hf]
          rfl
        · rw [List.take_add_one, hw, List.map_append]
          exact hlt.append (AllLt.one (by omega))
        · have e : [V.int ((wval wd : Nat) : Int)] ++ iv (((wordsOf line).take i).reverse.map wval) = iv (((wordsOf line).take (i + 1)).reverse.map wval) := by
            rw [List.take_add_one, hw]
            show _ = iv ((List.take i (wordsOf line) ++ [wd]).reverse.map wval)
            rw [List.reverse_append]
            rfl
          rw [e] at T ⊢
          exact T.two 2 0 rfl rfl (by decide)
  · clear T
    rintro σ' H' ⟨d, y3, y4, rfl, hall, hlt, T⟩
    rw [List.length_map] at hall hlt T
    rw [List.take_of_length_le (Nat.le_refl _)] at hall hlt T
    have hr : (wordsOf line).reverse.map wval = rowOf line := rfl
    rw [hr] at T
    have hne : rowOf line ≠ [] := fun e => words_ne line (List.reverse_eq_nil_iff.mp (List.map_eq_nil_iff.mp (hr.trans e)))
    have hall2 : AllLt b (rowOf line) := by
      rw [← hr, List.map_reverse]
      exact hlt.reverse
    have hB : readB b line = (!decide (((rowOf line).getLast hne : Int) = 0)) := by
      unfold readB
      rw [decide_eq_false h0, hall, Bool.false_or, Bool.true_and]
      unfold somes
      rw [rowB_iv (all_figs hall2), List.getLast?_eq_some_getLast hne]
    walk_at "s"
    refine x_ix (v := .int (((rowOf line).getLast hne : Nat) : Int)) (by walk_at "fact") ?_ ?_
    · have e := atI_last (iv (rowOf line).dropLast) (V.int (((rowOf line).getLast hne : Nat) : Int))
      rw [← iv_snoc, List.dropLast_concat_getLast] at e
      exact e
    walk_at "s"
    by_cases hz : (((rowOf line).getLast hne : Nat) : Int) = 0
    · rw [decide_eq_true hz] at hB
      refine ifF (by rw [decide_eq_true hz]; rfl) ?_
      walk_at "s"
      exact none_ T hB
    · rw [decide_eq_false hz] at hB
      refine ifT (by rw [decide_eq_false hz]; rfl) ?_
      walk_at "s"
      exact (q1 hB).go T 1 rfl

local macro_rules | `(tactic| walk_at "d") => `(tactic| repeat (first | walk_at "l1" | refine x_I (by decide) ?_ | refine x_I ⟨by decide, by decide⟩ ?_))
local macro_rules | `(tactic| walk_at "de") => `(tactic| repeat (first | walk_at "l0" | refine x_I (by decide) ?_ | refine x_I ⟨by decide, by decide⟩ ?_))
theorem x_mulB {a : Str} {k : Bool} {H : Hp} {Q : VK} (ha : a.length ≤ 1000) (q : Q (.str (if k = true then a else "")) H) : rMulS (.str a) (.int (if k = true then 1 else 0)) H Q := by
  cases k with
  | false => exact ⟨a, 0, rfl, rfl, by decide, ha, by rw [repS_zero]; decide, q⟩
  | true =>
    refine ⟨a, 1, rfl, rfl, by decide, ha, ?_, ?_⟩
    · rw [repS_one]
      omega
    · rw [repS_one]
      exact q
theorem str_none (x : Str) : ("" : Str) ++ x = x := TL.ext_tl (by rw [TL.tl_append]; rfl)
theorem str_end (x : Str) : x ++ ("" : Str) = x := TL.ext_tl (by rw [TL.tl_append]; exact List.append_nil _)
theorem one_text {b n : Nat} (hb : 2 ≤ b) : wtext b (val b (digits b n ++ [1])) = (if (!decide (digits b n = [])) = true then ("1." : Str) else "") ++ (if decide (digits b n = []) = true then ("1" : Str) else "") ++ (if (!decide (digits b n = [])) = true then wtext b n else "") := by
  rw [wtext_one hb]
  by_cases hn : n = 0
  · have e : decide (digits b n = []) = true := decide_eq_true ((digits_nil hb).mpr hn)
    rw [if_pos hn, e, if_neg (by decide), if_pos rfl, if_neg (by decide), str_none, str_end]
  · have e : decide (digits b n = []) = false := decide_eq_false fun z => hn ((digits_nil hb).mp z)
    rw [if_neg hn, e, if_pos (by decide), if_neg (by decide), if_pos (by decide), str_end]
theorem readL_len (line : Str) (h : line.length ≤ 640) : (readL line).length ≤ 100000 := by
  unfold readL rowOf
  split
  · decide
  · have := words_many line
    rw [List.length_map, List.length_reverse]
    omega
theorem cut_to_len (z : Str) (k : Nat) : (cutS z none (some (k : Int))).length ≤ k := by
  show ((z.cps.toList.drop _).take _).toArray.size ≤ _
  rw [List.size_toArray, List.length_take, HT.sIx_none, HT.sIx_nat]
  omega
theorem cut_from_len (z : Str) (k : Nat) : (cutS z (some (k : Int)) none).length ≤ z.length - k := by
  show ((z.cps.toList.drop _).take _).toArray.size ≤ _
  rw [List.size_toArray, List.length_take, HT.sIx_none, HT.sIx_nat]
  omega
theorem ite_len {a : Str} {k : Bool} {m : Nat} (h : a.length ≤ m) : (if k = true then a else ("" : Str)).length ≤ m := by
  cases k with
  | false => exact Nat.zero_le _
  | true => exact h
abbrev s_law : Stmt := topS 29
theorem sc_law : FnScope ["_law_script", "_law_base", "_law_row", "_law_due", "_law_handed", "_law_found", "_law_made", "_law_line", "_law_cell", "_law_at", "_law_sign", "_law_wanted", "_law_figure"] ["_law_script"] (defScope s_law) := ⟨rfl, rfl, rfl, by decide +kernel, rfl, by decide +kernel, by decide +kernel⟩
set_option maxHeartbeats 4000000 in
theorem ok_law {P : Program} {w : World} {K : PySem.W.Frag} {mg : Str → Option Value} {base : Heap} {fa : Addr} {fd : FuncData} (F : FunD K "law" "law" (defArgs s_law) (defBody s_law) (defScope s_law) [] [] fa fd) (m_list : mg "list" = none) (m_isinstance : mg "isinstance" = none) (m_len : mg "len" = none) (m_str : mg "str" = none) (m_int : mg "int" = none) (m_reversed : mg "reversed" = none) (C__law_draw : Cal P w K mg base CX0 "_law_draw" 1 ["_law_script", "_law_k"] (spDraw K)) (C__law_base_by : Cal P w K mg base CX0 "_law_base_by" 1 ["_law_cell"] spBaseBy) (C__law_row_by : Cal P w K mg base CX0 "_law_row_by" 2 ["_law_script", "_law_k", "_law_base", "_law_most"] (spRowBy K)) (C__law_same : Cal P w K mg base CX0 "_law_same" 2 (["_law_found", "_law_due"]) spSame) (C__law_line_by : Cal P w K mg base CX0 "_law_line_by" 2 (["_law_script", "_law_base"]) (spLineBy K)) (C__law_sign_by : Cal P w K mg base CX0 "_law_sign_by" 1 (["_law_cell"]) spSignBy) (C__law_due_of : Cal P w K mg base CX0 "_law_due_of" 1 (["_law_base", "_law_line"]) spDueOf) (C__law_refused : Cal P w K mg base CX0 "_law_refused" 8 (["_law_base", "_law_line"]) spRefused) (C_written : Cal P w K mg base CX0 "written" 7 (["base", "row"]) spWritten) (C_read : Cal P w K mg base CX0 "read" 7 (["base", "line"]) spRead) : FnOk P w K mg base CX0 9 fa fd ["_law_script"] (spLaw K) := by
  refine fn0 F sc_law (fun vs H Q E h => ?_) (fun cdv A outer s H vs Q E hr h => ?_)
  · obtain ⟨a, ns, rfl, _⟩ := h
    rfl
  obtain ⟨a, ns, rfl, hS, q⟩ := h
  refine ⟨_, (pss_cons (ps_set (i := 1) sc_law.nd rfl (Or.inl rfl) (pc C__law_base_by hr (pa_cons (pc C__law_draw hr (pa_cons (pv 0) (pa_cons pe_int pa_nil))) pa_nil)))
      (pss_cons (ps_set (i := 2) sc_law.nd rfl (Or.inl rfl) (pc C__law_row_by hr (pa_cons (pv 0) (pa_cons pe_int (pa_cons (pv 1) (pa_cons pe_int pa_nil))))))
      (pss_cons (ps_set (i := 3) sc_law.nd rfl (Or.inl rfl) pe_str)
      (pss_cons (ps_if (pt_cmpR (op_neD hr.units) (pv 2) (pe_lst pa_nil) (nomark _)) (pss_one (ps_set (i := 3) sc_law.nd rfl (Or.inl rfl) (pe_joinN pe_str (pe_lc (own := [("_law_figure", 12)]) (g := gName 12) (tt := tYes) rfl sc_law.nd (pi_reversed (by rfl) m_reversed (pa_cons (pv 2) pa_nil)) (blkOk_by (N := ["_law_script", "_law_base", "_law_row", "_law_due", "_law_handed", "_law_found", "_law_made", "_law_line", "_law_cell", "_law_at", "_law_sign", "_law_wanted", "_law_figure"]) (sc := defScope s_law) (by decide +kernel)) (fun _ _ _ _ _ => pg_name (i := 12) sc_law.nd rfl (Or.inl rfl)) (fun _ _ _ _ _ => pts_nil) (fun _ _ _ _ _ => (pe_callTy call_strI (by rfl) m_str (by decide +kernel) (pa_cons (pv 12) pa_nil))))))) pss_nil)
      (pss_cons (ps_set (i := 4) sc_law.nd rfl (Or.inl rfl) (pe_callTy call_list1 (by rfl) m_list (by decide +kernel) (pa_cons (pv 2) pa_nil)))
      (pss_cons (ps_set (i := 5) sc_law.nd rfl (Or.inl rfl) (pc C_written hr (pa_cons (pv 1) (pa_cons (pv 4) pa_nil))))
      (pss_cons (ps_if (PW.pt (pw_or (pt_not (pt_val (pe_callB call_isi (by rfl) m_isinstance (by decide +kernel) (pa_cons (pv 5) (pa_cons (pe_bltn (v := .ty "str") (by rfl) m_str (by decide +kernel) rfl) pa_nil))))) (pw_or (pt_cmpR op_ne (pv 5) (pv 3) (nomark _)) (pw_or1 (pt_cmpR (op_neD hr.units) (pv 4) (pv 2) (nomark _)))))) (pss_one (ps_ret pe_bl)) pss_nil)
      (pss_cons (ps_if (pt_cmpR op_ne (pc C_written hr (pa_cons (pv 1) (pa_cons (pe_op op_cat (pv 2) (pe_lst (pa_cons pe_int pa_nil))) pa_nil))) (pe_op op_addS (pe_op op_addS (pe_op op_mulS pe_str (pe_callTy call_int1 (by rfl) m_int (by decide +kernel) (pa_cons (pe_cmpR (op_neD hr.units) (pv 2) (pe_lst pa_nil) (nomark _)) pa_nil))) (pe_op op_mulS pe_str (pe_callTy call_int1 (by rfl) m_int (by decide +kernel) (pa_cons (pe_cmpR (op_eqD hr.units) (pv 2) (pe_lst pa_nil) (nomark _)) pa_nil)))) (pe_op op_mulS (pv 3) (pe_callTy call_int1 (by rfl) m_int (by decide +kernel) (pa_cons (pe_cmpR (op_neD hr.units) (pv 2) (pe_lst pa_nil) (nomark _)) pa_nil)))) (nomark _)) (pss_one (ps_ret pe_bl)) pss_nil)
      (pss_cons (ps_if (pt_cmpR op_ne (pc C_written hr (pa_cons (pv 1) (pa_cons (pv 4) pa_nil))) (pv 3) (nomark _)) (pss_one (ps_ret pe_bl)) pss_nil)
      (pss_cons (ps_set (i := 6) sc_law.nd rfl (Or.inl rfl) (pc C_read hr (pa_cons (pv 1) (pa_cons (pv 3) pa_nil))))
      (pss_cons (ps_if (pt_not (pt_val (pc C__law_same hr (pa_cons (pv 6) (pa_cons (pv 2) pa_nil))))) (pss_one (ps_ret pe_bl)) pss_nil)
      (pss_cons (ps_expr (pe_bm PySem.F.plainAttrs_list PySem.F.slot_list_append PySem.F.type_list_append mt_append (pv 6) (pa_cons pe_int pa_nil)))
      (pss_cons (ps_if (pt_not (pt_val (pc C__law_same hr (pa_cons (pc C_read hr (pa_cons (pv 1) (pa_cons (pv 3) pa_nil))) (pa_cons (pv 2) pa_nil))))) (pss_one (ps_ret pe_bl)) pss_nil)
      (pss_cons (ps_if (pt_cmpR op_eq (pe_op op_mod (pc C__law_draw hr (pa_cons (pv 0) (pa_cons pe_int pa_nil))) pe_int) pe_int (nomark _)) (pss_one (ps_ret (pc C__law_refused hr (pa_cons (pv 1) (pa_cons (pe_ix ix_list (pe_lst (pa_cons pe_non (pa_cons pe_int (pa_cons (pe_lst (pa_cons pe_str pa_nil)) (pa_cons pe_bl (pa_cons (pe_tup (pa_cons pe_str (pa_cons pe_str pa_nil))) pa_nil)))))) (pe_op op_mod (pe_op op_fdiv (pc C__law_draw hr (pa_cons (pv 0) (pa_cons pe_int pa_nil))) pe_int) pe_int) (fun _ _ => rfl)) pa_nil))))) pss_nil)
      (pss_cons (ps_set (i := 7) sc_law.nd rfl (Or.inl rfl) (pc C__law_line_by hr (pa_cons (pv 0) (pa_cons (pv 1) pa_nil))))
      (pss_cons (ps_set (i := 8) sc_law.nd rfl (Or.inl rfl) (pc C__law_draw hr (pa_cons (pv 0) (pa_cons pe_int pa_nil))))
      (pss_cons (ps_if (pt_cmpR op_eq (pe_op op_mod (pv 8) pe_int) pe_int (nomark _)) (pss_cons (ps_set (i := 9) sc_law.nd rfl (Or.inl rfl) (pe_op op_mod (pe_op op_fdiv (pv 8) pe_int) (pe_op op_add (pe_callB call_len_str (by rfl) m_len PySem.boot_len (pa_cons (pv 3) pa_nil)) pe_int)))
      (pss_cons (ps_set (i := 10) sc_law.nd rfl (Or.inl rfl) (pc C__law_sign_by hr (pa_cons (pe_op op_fdiv (pe_op op_fdiv (pv 8) pe_int) (pe_op op_add (pe_callB call_len_str (by rfl) m_len PySem.boot_len (pa_cons (pv 3) pa_nil)) pe_int)) pa_nil)))
      (pss_one (ps_set (i := 7) sc_law.nd rfl (Or.inl rfl) (pe_op op_addS (pe_op op_addS (pe_slice sl_str (pv 3) po_none (po_some (pv 9))) (pv 10)) (pe_slice sl_str (pv 3) (po_some (pe_op op_add (pv 9) (pe_op op_mod (pc C__law_draw hr (pa_cons (pv 0) (pa_cons pe_int pa_nil))) pe_int))) po_none)))))) pss_nil)
      (pss_cons (ps_set (i := 11) sc_law.nd rfl (Or.inl rfl) (pc C__law_due_of hr (pa_cons (pv 1) (pa_cons (pv 7) pa_nil))))
      (pss_cons (ps_if (pt_cmpR op_isN (pv 11) pe_non (nomark _)) (pss_one (ps_ret (pc C__law_refused hr (pa_cons (pv 1) (pa_cons (pv 7) pa_nil))))) pss_nil)
      (pss_one (ps_ret (pc C__law_same hr (pa_cons (pc C_read hr (pa_cons (pv 1) (pa_cons (pv 7) pa_nil))) (pa_cons (pv 11) pa_nil)))))))))))))))))))))))), ?_⟩
  show tSeq _ _ _ [some (.ref a), none, none, none, none, none, none, none, none, none, none, none, none] H
  have T := Trk.nil H
  walk_at "l"
  refine ⟨_, rfl, fun b hb => t_retV ‹_› fun H1 T => ?_⟩
  walk_at "l"
  refine ⟨_, _, _, _, _, rfl, Trk.sq ‹_› ‹_›, by omega, hb, ⟨by omega, by omega⟩, fun n ln => t_retL ‹_› fun p1 _ _ => ?_⟩
  have ln : (digits b n).length ≤ 69 := Nat.le_trans ln (by decide)
  have lt := digits_lt hb.1 n
  have lw : (wtext b n).length ≤ 490 := wtext_len hb (k := 70) (by omega) (by decide)
  walk_at "e"
  with_reducible refine x_seq ?_
  walk_at "e"
  with_reducible refine x_seq ?_
  rename_i T
  -- the row's text
  refine x_mid (fun σ' H' => σ' = [some (.ref a), some (.int (b : Int)), some (.ref p1), some (.str (wtext b n)), none, none, none, none, none, none, none, none, none] ∧ Trk H H' [(p1, .lst (dig b n))]) ?_ ?_
  · intro R hk
    walk_at "l"
    rename_i d T
    refine x_neL (l := digits b n) (m := []) (by walk_at "fact") (by walk_at "fact") ?_
    walk_at "l"
    by_cases hz : n = 0
    · refine ifF (by rw [decide_eq_true ((digits_nil hb.1).mpr hz)]; rfl) ?_
      have e : wtext b n = "0" := by unfold wtext; rw [if_pos hz]
      rw [e] at hk
      walk_at "l"
      exact hk _ _ ⟨rfl, T.one 1 rfl⟩
    refine ifT (by rw [decide_eq_false fun z => hz ((digits_nil hb.1).mp z)]; rfl) ?_
    have e : wtext b n = Txt.join "." ((digits b n).reverse.map numS) := by unfold wtext; rw [if_neg hz]
    rw [e] at hk
    have T := T.one 1 rfl
    walk_at "s"
    intro e he
    have T := T.lay (o := .lst []) he
    have e1 : (dig b n).length = (digits b n).length := iv_length _
    refine lc_Itv (xs := dig b n) (fun i H' => Trk H H' [(e, .lst (((digits b n).reverse.map numS).take i |>.map V.str)), (p1, .lst (dig b n))]) T ?_ ?_ ?_
    · intro i H' T
      exact SqL.of (T.get (i := 1) rfl)
    · intro i v H' hi hx T
      obtain ⟨u, hu, rfl⟩ := iv_at hx
      have hub := lt.get hu
      rw [e1] at hi hu
      have hr2 : ((digits b n).reverse.map numS)[i]? = some (numS u) := by
        rw [List.getElem?_map, List.getElem?_reverse hi, hu]
        rfl
      show gName 12 _ [some (.ref a), some (.int (b : Int)), some (.ref p1), some (.str "0"), none, none, none, none, none, none, none, none, none] _ _
      walk_at "s"
      refine ⟨rfl, ?_⟩
      walk_at "s"
      refine x_strI (by omega) ?_
      refine ⟨_, T.get (i := 0) rfl, Nat.lt_of_lt_of_le (show _ < 100000 by rw [List.length_map, List.length_take, List.length_map, List.length_reverse]; omega) (by decide), ?_⟩
      rw [List.take_add_one, hr2, List.map_append]
      exact T.mut 0 rfl
    · intro H' T
      rw [List.take_of_length_le (by rw [List.length_map, List.length_reverse, e1]; exact Nat.le_refl _)] at T
      walk_at "s"
      refine x_join (T.get (i := 0) rfl) ?_ ?_
      · rw [List.map_map, List.length_map, List.length_reverse]
        have hs := sum_le (l := (digits b n).reverse.map ((fun x : Str => x.length) ∘ numS)) (k := 10) (fun x hx => by
          obtain ⟨y, hy, rfl⟩ := List.mem_map.mp hx
          have := lt y (List.mem_reverse.mp hy)
          exact numS_len (by omega))
        rw [List.length_map, List.length_reverse] at hs
        have : (Str.length "." ) = 1 := rfl
        rw [this]
        omega
      walk_at "s"
      exact hk _ _ ⟨rfl, T.one 1 rfl⟩
  clear T
  rintro σ' H2 ⟨rfl, T⟩
  walk_at "l"
  rename_i p2 T
  have e1 : (dig b n).length = (digits b n).length := iv_length _
  refine ⟨b, n, _, rfl, hb, by walk_at "fact", by omega, t_retV T fun _ T => ?_⟩
  walk_at "l"
  refine x_isi (b := true) (.base (.str _)) (by decide +kernel) ?_
  walk_at "l"
  refine ifF (by rw [decide_eq_true rfl]; rfl) ?_
  walk_at "l"
  refine x_neL (l := digits b n) (m := digits b n) (by walk_at "fact") (by walk_at "fact") ?_
  walk_at "l"
  refine ifF (by rw [decide_eq_true rfl]; rfl) ?_
  walk_at "l"
  rename_i d T
  -- with a one at its end
  refine t_cat (xs := dig b n) (ys := [V.int 1]) T (by walk_at "fact") (by walk_at "fact") (by rw [e1]; show _ + 1 ≤ _; omega) fun p3 T => ?_
  have en := digits_val_snoc hb.1 lt (by omega : 1 < b) (by decide)
  have en2 : dig b n ++ [V.int 1] = dig b (val b (digits b n ++ [1])) := by
    unfold dig
    rw [en, iv_snoc]
    rfl
  rw [en2] at T ⊢
  refine ⟨b, _, _, rfl, hb, T.get (i := 0) rfl, by rw [en, List.length_append]; show _ + 1 ≤ _; omega, t_retV T fun _ T => ?_⟩
  rw [one_text hb.1]
  generalize hzz : decide (digits b n = []) = z
  walk_at "l"
  refine x_neL (l := digits b n) (m := []) (by walk_at "fact") (by walk_at "fact") ?_
  rw [hzz]
  walk_at "l"
  refine Or.inr ⟨_, rfl, ?_⟩
  walk_at "l"
  refine x_mulB (by decide) ?_
  walk_at "l"
  refine x_eqL (l := digits b n) (m := []) (by walk_at "fact") (by walk_at "fact") ?_
  rw [hzz]
  walk_at "l"
  refine Or.inr ⟨_, rfl, ?_⟩
  walk_at "l"
  refine x_mulB (by decide) ?_
  have l1 := ite_len (a := "1.") (k := !z) (m := 2) (by decide)
  have l2 := ite_len (a := "1") (k := z) (m := 1) (by decide)
  have l3 := ite_len (k := !z) lw
  refine x_addS (by omega) ?_
  walk_at "l"
  refine x_neL (l := digits b n) (m := []) (by walk_at "fact") (by walk_at "fact") ?_
  rw [hzz]
  walk_at "l"
  refine Or.inr ⟨_, rfl, ?_⟩
  walk_at "l"
  refine x_mulB (by omega) ?_
  refine x_addS (by rw [app_len]; omega) ?_
  walk_at "l"
  refine ifF (by rw [decide_eq_true rfl]; rfl) ?_
  walk_at "l"
  rename_i T
  have T := T.two 6 5 rfl rfl (by decide)
  refine ⟨b, n, _, rfl, hb, by walk_at "fact", by omega, t_retV T fun _ T => ?_⟩
  walk_at "l"
  refine ifF (by rw [decide_eq_true rfl]; rfl) ?_
  walk_at "l"
  -- read back
  have hrd := read_wtext hb.1 n
  have go : ∀ {H' : Hp} {L : List (Addr × HO)} {Q' : VK} (T : Trk H H' L) (k : ∀ p H'', Trk H H'' ((p, .lst (dig b n)) :: L) → Q' (.ref p) H''), spRead [.int (b : Int), .str (wtext b n)] H' Q' E0 := fun {H' L Q'} T k => by
    refine ⟨b, _, rfl, hb, by omega, hrd.1, ?_⟩
    rw [hrd.2]
    exact t_retL T k
  refine go T fun p5 H5 T => ?_
  walk_at "l"
  rename_i T
  refine go T fun p6 H6 T => ?_
  walk_at "l"
  rename_i T
  have T := T.one 2 rfl
  walk_at "d"
  refine if2 (fun h1 => ?_) (fun h1 => ?_)
  · walk_at "d"
    rename_i z _ T
    have h3 : 0 ≤ z / 16 % 5 ∧ z / 16 % 5 < 5 := by omega
    generalize z / 16 % 5 = k at *
    have h4 : k = 0 ∨ k = 1 ∨ k = 2 ∨ k = 3 ∨ k = 4 := by omega
    have hp1 := T.get (i := 2) rfl
    have hp2 := T.get (i := 1) rfl
    rcases h4 with rfl | rfl | rfl | rfl | rfl
    · refine x_ix (T.get (i := 0) rfl) (atI_nat (j := 0) rfl) ?_
      walk_at "d"
      exact ⟨b, _, rfl, hb, .inl .non, fun _ _ => q _⟩
    · refine x_ix (T.get (i := 0) rfl) (atI_nat (j := 1) rfl) ?_
      walk_at "d"
      exact ⟨b, _, rfl, hb, .inl (.int _), fun _ _ => q _⟩
    · refine x_ix (T.get (i := 0) rfl) (atI_nat (j := 2) rfl) ?_
      walk_at "d"
      exact ⟨b, _, rfl, hb, .inl (.lst hp1), fun _ _ => q _⟩
    · refine x_ix (T.get (i := 0) rfl) (atI_nat (j := 3) rfl) ?_
      walk_at "d"
      exact ⟨b, _, rfl, hb, .inl (.bl _), fun _ _ => q _⟩
    · refine x_ix (T.get (i := 0) rfl) (atI_nat (j := 4) rfl) ?_
      walk_at "d"
      exact ⟨b, _, rfl, hb, .inl (.tup hp2), fun _ _ => q _⟩
  -- a line
  walk_at "d"
  refine ⟨_, _, b, rfl, T.sq hS, hb, fun l hl => t_retV T fun _ T => ?_⟩
  walk_at "de"
  with_reducible refine x_seq ?_
  walk_at "de"
  with_reducible refine x_seq ?_
  rename_i ce _ T
  refine x_mid (fun σ' H' => ∃ (line : Str) (y9 y10 : Option V), σ' = [some (.ref a), some (.int (b : Int)), some (.ref p1), some (.str (wtext b n)), some (.ref p2), some (.str (wtext b n)), some (.ref p5), some (.str line), some (.int ce), y9, y10, none, none] ∧ line.length ≤ 640 ∧ Trk H H' [(p1, .lst (dig b n))]) ?_ ?_
  · intro R hk
    walk_at "d"
    refine if2 (fun h1 => ?_) (fun h1 => ?_)
    · walk_at "d"
      refine ⟨_, rfl, sz (by omega), ?_⟩
      walk_at "d"
      refine x_I (by omega) ?_
      obtain ⟨at_, hat, hle⟩ : ∃ at_ : Nat, ce / 3 % (((wtext b n).length : Int) + 1) = (at_ : Int) ∧ at_ ≤ (wtext b n).length := by
        have e1 := Int.emod_nonneg (ce / 3) (b := ((wtext b n).length : Int) + 1) (by omega)
        have e2 := Int.emod_lt_of_pos (ce / 3) (b := ((wtext b n).length : Int) + 1) (by omega)
        exact ⟨(ce / 3 % (((wtext b n).length : Int) + 1)).toNat, by omega, by omega⟩
      rw [hat]
      clear hat
      walk_at "d"
      refine ⟨_, rfl, sz (by omega), ?_⟩
      walk_at "d"
      refine x_I ⟨by omega, by omega⟩ ?_
      walk_at "d"
      refine ⟨_, rfl, fun c => t_retV T fun _ T => ?_⟩
      walk_at "d"
      refine ⟨_, rfl, sz (by omega), ?_⟩
      have c1 := cut_to_len (wtext b n) at_
      have c2 : (⟨#[c]⟩ : Str).length = 1 := rfl
      walk_at "d"
      refine x_addS (by omega) ?_
      walk_at "d"
      refine ⟨_, rfl, sz (by omega), ?_⟩
      have c3 := app_len (cutS (wtext b n) none (some (at_ : Int))) ⟨#[c]⟩
      rename_i z _ _
      obtain ⟨j, hj⟩ : ∃ j : Nat, (at_ : Int) + z % 2 = ((at_ + j : Nat) : Int) := ⟨(z % 2).toNat, by omega⟩
      rw [hj]
      have c4 := cut_from_len (wtext b n) (at_ + j)
      refine x_addS (by omega) ?_
      walk_at "d"
      rename_i T
      exact hk _ _ ⟨_, _, _, rfl, by rw [app_len]; omega, T⟩
    · walk_at "d"
      exact hk _ _ ⟨l, _, _, rfl, by omega, T⟩
  clear T
  rintro σ' H7 ⟨line, y9, y10, rfl, hl2, T⟩
  walk_at "d"
  refine ⟨b, line, rfl, hb, hl2, fun hB => t_retL T fun p H' T => ?_, fun hB => t_retV T fun H' T => ?_⟩
  · walk_at "d"
    refine ⟨rfl, ?_⟩
    walk_at "d"
    refine ifF (decide_eq_false fun h => nomatch h) ?_
    walk_at "d"
    refine ⟨b, line, rfl, hb, hl2, hB, t_retL T fun p8 H' T => ?_⟩
    walk_at "e"
    refine ⟨_, _, readL line, rfl, T.get (i := 0) rfl, T.get (i := 1) rfl, readL_len line hl2, t_retV T fun _ T => ?_⟩
    exact q _
  · walk_at "d"
    refine ⟨rfl, ?_⟩
    walk_at "d"
    refine ifT (decide_eq_true rfl) ?_
    walk_at "d"
    exact ⟨b, _, rfl, hb, .inr ⟨line, rfl, hl2, hB⟩, fun _ _ => q _⟩
def d_is_whole : He.DefD := ⟨("is_whole", none), "is_whole", "is_whole", defArgs s_is_whole, defBody s_is_whole, defScope s_is_whole, [], []⟩
def d_is_base : He.DefD := ⟨("is_base", none), "is_base", "is_base", defArgs s_is_base, defBody s_is_base, defScope s_is_base, [], []⟩
def d_need_base : He.DefD := ⟨("need_base", none), "need_base", "need_base", defArgs s_need_base, defBody s_need_base, defScope s_need_base, [], []⟩
def d_is_figure : He.DefD := ⟨("is_figure", none), "is_figure", "is_figure", defArgs s_is_figure, defBody s_is_figure, defScope s_is_figure, [], []⟩
def d_is_row : He.DefD := ⟨("is_row", none), "is_row", "is_row", defArgs s_is_row, defBody s_is_row, defScope s_is_row, [], []⟩
def d_need_row : He.DefD := ⟨("need_row", none), "need_row", "need_row", defArgs s_need_row, defBody s_need_row, defScope s_need_row, [], []⟩
def d_written : He.DefD := ⟨("written", none), "written", "written", defArgs s_written, defBody s_written, defScope s_written, [], []⟩
def d_is_figures : He.DefD := ⟨("is_figures", none), "is_figures", "is_figures", defArgs s_is_figures, defBody s_is_figures, defScope s_is_figures, [], []⟩
def d_read : He.DefD := ⟨("read", none), "read", "read", defArgs s_read, defBody s_read, defScope s_read, [], []⟩
def d__law_draw : He.DefD := ⟨("_law_draw", none), "_law_draw", "_law_draw", defArgs s__law_draw, defBody s__law_draw, defScope s__law_draw, [], []⟩
def d__law_base_by : He.DefD := ⟨("_law_base_by", none), "_law_base_by", "_law_base_by", defArgs s__law_base_by, defBody s__law_base_by, defScope s__law_base_by, [], []⟩
def d__law_row_by : He.DefD := ⟨("_law_row_by", none), "_law_row_by", "_law_row_by", defArgs s__law_row_by, defBody s__law_row_by, defScope s__law_row_by, [], []⟩
def d__law_is_number : He.DefD := ⟨("_law_is_number", none), "_law_is_number", "_law_is_number", defArgs s__law_is_number, defBody s__law_is_number, defScope s__law_is_number, [], []⟩
def d__law_same : He.DefD := ⟨("_law_same", none), "_law_same", "_law_same", defArgs s__law_same, defBody s__law_same, defScope s__law_same, [], []⟩
def d__law_word_by : He.DefD := ⟨("_law_word_by", none), "_law_word_by", "_law_word_by", defArgs s__law_word_by, defBody s__law_word_by, defScope s__law_word_by, [], []⟩
def d__law_line_by : He.DefD := ⟨("_law_line_by", none), "_law_line_by", "_law_line_by", defArgs s__law_line_by, defBody s__law_line_by, defScope s__law_line_by, [], []⟩
def d__law_sign_by : He.DefD := ⟨("_law_sign_by", none), "_law_sign_by", "_law_sign_by", defArgs s__law_sign_by, defBody s__law_sign_by, defScope s__law_sign_by, [], []⟩
def d__law_due_of : He.DefD := ⟨("_law_due_of", none), "_law_due_of", "_law_due_of", defArgs s__law_due_of, defBody s__law_due_of, defScope s__law_due_of, [], []⟩
def d__law_refused : He.DefD := ⟨("_law_refused", none), "_law_refused", "_law_refused", defArgs s__law_refused, defBody s__law_refused, defScope s__law_refused, [], []⟩
def d_law : He.DefD := ⟨("law", none), "law", "law", defArgs s_law, defBody s_law, defScope s_law, [], []⟩
def fn : List He.DefD := [d_is_whole, d_is_base, d_need_base, d_is_figure, d_is_row, d_need_row, d_written, d_is_figures, d_read, d__law_draw, d__law_base_by, d__law_row_by, d__law_is_number, d__law_same, d__law_word_by, d__law_line_by, d__law_sign_by, d__law_due_of, d__law_refused, d_law]
def fa : List He.Fa := [.glo "is_whole", .glo "is_base", .glo "need_base", .glo "is_figure", .glo "is_row", .glo "need_row", .glo "written", .glo "is_figures", .glo "read", .glo "_law_draw", .glo "_law_base_by", .glo "_law_row_by", .glo "_law_is_number", .glo "_law_same", .glo "_law_word_by", .glo "_law_line_by", .glo "_law_sign_by", .glo "_law_due_of", .glo "_law_refused", .glo "law", .free "len", .free "range", .free "int", .free "isinstance", .free "list", .free "bool", .int "LEAST_BASE" 2, .int "MOST_BASE" 1000000, .str "SIGNS" "0123456789", .free "reversed", .free "str", .free "ValueError", .glo "NoBase", .exc "NoBase", .glo "NoRow", .exc "NoRow", .glo "RowError", .exm "NoRow" "RowError" true]
def loose0 : List PySem.Str := ["RowError", "NoBase", "NoRow", "LEAST_BASE", "MOST_BASE", "is_whole", "is_base", "need_base", "is_figure", "is_row", "need_row", "SIGNS", "written", "is_figures", "read", "_law_draw", "_law_base_by", "_law_row_by", "_law_is_number", "_law_same", "_law_word_by", "_law_line_by", "_law_sign_by", "_law_due_of", "_law_refused"]
def loose : List PySem.Str := loose0
abbrev R : PySem.W.OpenRow := PySem.W.OpenLaw.row PySem.Challenge.rw_figrow_k13_written_and_read
def ex : List ExF := [.own "NoRow", .kitT "NoRow" "ValueError" true, .kit "NoRow" "NoRow" true]
abbrev hk : PySem.W.Hook := hookF 4 fa fn ex
def ob (s : PySem.W.SharedT) : AlF := obsFG 4 fa fn ex (HandSHeadRun.getT s)
theorem ob_eq (s : PySem.W.SharedT) : ob s = hk.obs s.abs := obsFG_eq (HandSHeadRun.getT_eq s)
theorem run (w : World) : HandSHeadRun.RunEq R (PySem.W.view R.prog [29]) hk ob 4000 loose w := by
  intro os
  kernel_rfl
theorem facts {P : Program} {w : World} {K : PySem.W.Frag} {h : Heap} {mg : Str → Option Value} {f : Addr} (X : K.In h) (G : h.Ns mainGlobals mg) (hfa : mg ("law" : Str) = some (.ref f)) (c : He.SaysD fa fn K) (cx : (ex.all fun e => e.ok K) = true) :
    ∃ fd : FuncData, (∀ (s : Shared) (v : Value), BindsTo s fd ⟨[v], []⟩ [("_law_script", v)]) ∧ ∀ base : Heap, K.In base → base.Ns mainGlobals mg → FnOk P w K mg base CX0 9 f fd ["_law_script"] (spLaw K) := by
  have D_is_whole : Dfn K mg "is_whole" s_is_whole := Dfn.of c X G 0 0 rfl rfl
  have D_is_base : Dfn K mg "is_base" s_is_base := Dfn.of c X G 1 1 rfl rfl
  have D_need_base : Dfn K mg "need_base" s_need_base := Dfn.of c X G 2 2 rfl rfl
  have D_is_figure : Dfn K mg "is_figure" s_is_figure := Dfn.of c X G 3 3 rfl rfl
  have D_is_row : Dfn K mg "is_row" s_is_row := Dfn.of c X G 4 4 rfl rfl
  have D_need_row : Dfn K mg "need_row" s_need_row := Dfn.of c X G 5 5 rfl rfl
  have D_written : Dfn K mg "written" s_written := Dfn.of c X G 6 6 rfl rfl
  have D_is_figures : Dfn K mg "is_figures" s_is_figures := Dfn.of c X G 7 7 rfl rfl
  have D_read : Dfn K mg "read" s_read := Dfn.of c X G 8 8 rfl rfl
  have D__law_draw : Dfn K mg "_law_draw" s__law_draw := Dfn.of c X G 9 9 rfl rfl
  have D__law_base_by : Dfn K mg "_law_base_by" s__law_base_by := Dfn.of c X G 10 10 rfl rfl
  have D__law_row_by : Dfn K mg "_law_row_by" s__law_row_by := Dfn.of c X G 11 11 rfl rfl
  have D__law_is_number : Dfn K mg "_law_is_number" s__law_is_number := Dfn.of c X G 12 12 rfl rfl
  have D__law_same : Dfn K mg "_law_same" s__law_same := Dfn.of c X G 13 13 rfl rfl
  have D__law_word_by : Dfn K mg "_law_word_by" s__law_word_by := Dfn.of c X G 14 14 rfl rfl
  have D__law_line_by : Dfn K mg "_law_line_by" s__law_line_by := Dfn.of c X G 15 15 rfl rfl
  have D__law_sign_by : Dfn K mg "_law_sign_by" s__law_sign_by := Dfn.of c X G 16 16 rfl rfl
  have D__law_due_of : Dfn K mg "_law_due_of" s__law_due_of := Dfn.of c X G 17 17 rfl rfl
  have D__law_refused : Dfn K mg "_law_refused" s__law_refused := Dfn.of c X G 18 18 rfl rfl
  have m_len : mg "len" = none := free_of c X G 20 rfl
  have m_range : mg "range" = none := free_of c X G 21 rfl
  have m_int : mg "int" = none := free_of c X G 22 rfl
  have m_isinstance : mg "isinstance" = none := free_of c X G 23 rfl
  have m_list : mg "list" = none := free_of c X G 24 rfl
  have m_bool : mg "bool" = none := free_of c X G 25 rfl
  have gc_LEAST_BASE := int_of (x := "LEAST_BASE") (i := 2) c X G 26 rfl
  have gc_MOST_BASE := int_of (x := "MOST_BASE") (i := 1000000) c X G 27 rfl
  have gs_SIGNS := He.str_ok (x := "SIGNS") (z := "0123456789") X G (c.fact 28 rfl)
  have m_reversed : mg "reversed" = none := free_of c X G 29 rfl
  have m_str : mg "str" = none := free_of c X G 30 rfl
  have m_ValueError : mg "ValueError" = none := free_of c X G 31 rfl
  have g_NoBase := He.glo_ok X G (c.fact 32 (f := .glo "NoBase") rfl)
  have exc_NoBase := He.exc_ok (c.fact 33 (f := .exc "NoBase") rfl)
  have g_NoRow := He.glo_ok X G (c.fact 34 (f := .glo "NoRow") rfl)
  have exc_NoRow := He.exc_ok (c.fact 35 (f := .exc "NoRow") rfl)
  have g_RowError := He.glo_ok X G (c.fact 36 (f := .glo "RowError") rfl)
  have exm_NoRow_RowError := He.exm_ok (c.fact 37 (f := .exm "NoRow" "RowError" true) rfl)
  have X_NoBase : Exc1 K mg "NoBase" := ⟨g_NoBase, exc_NoBase⟩
  have X_NoRow : Exc1 K mg "NoRow" := ⟨g_NoRow, exc_NoRow⟩
  have e_NoRow_RowError := exm_NoRow_RowError
  have i_NoRow := own_ok (ex_at cx 0 (f := .own "NoRow") rfl)
  have kt_NoRow_ValueError := kitT_ok (ex_at cx 1 (f := .kitT "NoRow" "ValueError" true) rfl)
  have k_NoRow_NoRow := kit_ok (ex_at cx 2 (f := .kit "NoRow" "NoRow" true) rfl)
  obtain ⟨fd, F⟩ := c.def_ 19 (d := d_law) rfl
  have e := hfa.symm.trans (He.glo_ok X G (c.fact 19 (f := .glo "law") rfl))
  cases e
  have b := FunD.bindsA (ps := ["_law_script"]) F fun _ _ _ _ _ _ us hl => match us, hl with | [_], _ => rfl
  refine ⟨fd, fun s v => b s [v] rfl, fun base _ _ => ?_⟩
  have C__law_draw := ok_law_draw (P := P) (w := w) (K := K) (mg := mg) (base := base) D__law_draw m_len
  have C__law_base_by := ok_law_base_by (P := P) (w := w) (K := K) (mg := mg) (base := base) D__law_base_by
  have C__law_row_by := ok_law_row_by (P := P) (w := w) (K := K) (mg := mg) (base := base) D__law_row_by m_range m_int C__law_draw
  have C__law_is_number := ok_law_is_number (P := P) (w := w) (K := K) (mg := mg) (base := base) D__law_is_number m_isinstance m_int
  have C__law_same := ok_law_same (P := P) (w := w) (K := K) (mg := mg) (base := base) D__law_same m_isinstance m_list m_len m_range C__law_is_number
  have C_is_whole := ok_is_whole (P := P) (w := w) (K := K) (mg := mg) (base := base) D_is_whole m_isinstance m_int m_bool
  have C_is_base := ok_is_base (P := P) (w := w) (K := K) (mg := mg) (base := base) D_is_base gc_LEAST_BASE gc_MOST_BASE C_is_whole
  have C_need_base := ok_need_base (P := P) (w := w) (K := K) (mg := mg) (base := base) D_need_base C_is_base
  have C_is_figure := ok_is_figure (P := P) (w := w) (K := K) (mg := mg) (base := base) D_is_figure C_is_whole C_need_base
  have C_is_row := ok_is_row (P := P) (w := w) (K := K) (mg := mg) (base := base) D_is_row m_isinstance m_list C_need_base C_is_figure
  have C_need_row := ok_need_row (P := P) (w := w) (K := K) (mg := mg) (base := base) D_need_row C_is_row
  have CX_need_base := ok_need_base_X (P := P) (w := w) (K := K) (mg := mg) (base := base) D_need_base X_NoBase C_is_base
  have C_is_figures := ok_is_figures (P := P) (w := w) (K := K) (mg := mg) (base := base) D_is_figures gs_SIGNS
  have CX_read := ok_read_X (P := P) (w := w) (K := K) (mg := mg) (base := base) D_read m_reversed m_str m_int m_isinstance X_NoRow CX_need_base C_is_figures C_is_row
  have C_written := ok_written (P := P) (w := w) (K := K) (mg := mg) (base := base) D_written m_reversed m_str C_need_base C_need_row
  have C_read := ok_read (P := P) (w := w) (K := K) (mg := mg) (base := base) D_read m_reversed m_str m_int m_isinstance C_need_base C_is_figures C_is_row
  have C__law_word_by := ok_law_word_by (P := P) (w := w) (K := K) (mg := mg) (base := base) D__law_word_by m_str
  have C__law_line_by := ok_law_line_by (P := P) (w := w) (K := K) (mg := mg) (base := base) D__law_line_by m_range C__law_draw C__law_word_by
  have C__law_sign_by := ok_law_sign_by (P := P) (w := w) (K := K) (mg := mg) (base := base) D__law_sign_by m_len
  have C__law_refused := ok_law_refused (P := P) (w := w) (K := K) (mg := mg) (base := base) D__law_refused g_RowError m_isinstance m_ValueError g_NoRow e_NoRow_RowError i_NoRow kt_NoRow_ValueError k_NoRow_NoRow CX_read
  have C__law_due_of := ok_law_due_of (P := P) (w := w) (K := K) (mg := mg) (base := base) D__law_due_of m_int
  exact ok_law F m_list m_isinstance m_len m_str m_int m_reversed C__law_draw C__law_base_by C__law_row_by C__law_same C__law_line_by C__law_sign_by C__law_due_of C__law_refused C_written C_read
end Fg
open PySem PySem.W PySem.Calls PyProof.Rows
set_option maxHeartbeats 0 in
theorem PySem.Challenge.cw_figrow_k13_written_and_read_holds : PySem.Challenge.rw_figrow_k13_written_and_read.Holds := by
  w_on; o_law
  refine HandSHeadRun.head_any (r := OpenLaw.row PySem.Challenge.rw_figrow_k13_written_and_read) (q := view (OpenLaw.row PySem.Challenge.rw_figrow_k13_written_and_read).prog [29]) (H := Fg.hk) (ob := Fg.ob) (M := 4000) (loose := Fg.loose) (d := HandSHeadRun.topDef (OpenLaw.row PySem.Challenge.rw_figrow_k13_written_and_read).prog 29) (kwd := []) Fg.ob_eq
    (by kernel_rfl) (fun s => by kernel_rfl) Fg.run (by kernel_rfl) (by kernel_rfl) (by kernel_rfl) (by rfl) (by first | assumption | decide +kernel) (by decide +kernel) ⟨rfl, rfl, rfl, rfl, rfl, by decide +kernel⟩ ?hw ?hc
  case hw => w_witness2
  case hc =>
    refine L2.walk_ofE (l := PySem.Challenge.rw_figrow_k13_written_and_read) (n := 63) (k := 9) (x := "_law_script") (CX := L2.CX0) rfl (by decide) (by kernel_rfl) ⟨rfl, by decide, by decide⟩ ?F (fun _ _ _ _ z => z)
    intro w mg fa h Y G hmg0
    obtain ⟨K, KX, c, cx⟩ := Y
    have hmg : mg ("law" : PySem.Str) = some (.ref fa) := by
      have e : (HandSHeadRun.topDef (OpenLaw.row PySem.Challenge.rw_figrow_k13_written_and_read).prog 29).name = ("law" : PySem.Str) := by kernel_rfl
      rw [← e]
      exact hmg0
    obtain ⟨fd, hb, hF⟩ := Fg.facts (P := (PySem.Challenge.rw_figrow_k13_written_and_read).prog) (w := w) KX G hmg c cx
    exact ⟨K, fd, Fg.spLaw K, KX, hb, fun H a ns hl _ hS => ⟨a, ns, rfl, hS, fun _ => rfl⟩, hF⟩
