import PyProof.Rows.All
import Wide.All
import OpenK.AllK
import Wide.FinOn
import KE.KStateDown
import Lean
import HandS.ForMost
import HandS.Exc
import HandS.TryOnly
import HandS.ExcOwn
import HandS.ExcIs
import HandS.WordsExc
import HandS.Defaults
import HandS.Style
import HandS.IsInst
import HandS.Wide
import HandS.Rev
import HandS.Head0
import HandS.Head1
import HandS.Head2
import HandS.HeadEnd
import HandS.HeadHook1
import HandS.HeadHook2
import PySem.Challenge.RW_figrow_k11_whole_ladders
set_option Elab.async false
set_option linter.all false
/-! the mathematics of rows: plain Lean, no program -/
namespace Fg

def val (b : Nat) : List Nat → Nat
  | [] => 0
  | x :: l => x + b * val b l
def AllLt (b : Nat) (l : List Nat) : Prop := ∀ x ∈ l, x < b
/-- without the noughts at its end -/
def trim : List Nat → List Nat
  | [] => []
  | x :: l => if trim l = [] ∧ x = 0 then [] else x :: trim l
def digits (b n : Nat) : List Nat :=
  if h : 2 ≤ b ∧ 0 < n then n % b :: digits b (n / b) else []
termination_by n
decreasing_by exact Nat.div_lt_self h.2 h.1

theorem digits_zero (b : Nat) : digits b 0 = [] := by
  unfold digits
  rw [dif_neg (by omega)]
theorem digits_pos {b n : Nat} (hb : 2 ≤ b) (hn : 0 < n) : digits b n = n % b :: digits b (n / b) := by
  rw [digits.eq_def]
  rw [dif_pos ⟨hb, hn⟩]
theorem digits_nil {b n : Nat} (hb : 2 ≤ b) : digits b n = [] ↔ n = 0 := by
  constructor
  · intro h
    by_cases hn : 0 < n
    · rw [digits_pos hb hn] at h
      cases h
    · omega
  · rintro rfl
    exact digits_zero b
theorem val_digits {b : Nat} (hb : 2 ≤ b) (n : Nat) : val b (digits b n) = n := by
  induction n using Nat.strongRecOn with
  | ind n ih =>
    by_cases hn : 0 < n
    · rw [digits_pos hb hn]
      show n % b + b * val b (digits b (n / b)) = n
      rw [ih (n / b) (Nat.div_lt_self hn hb)]
      exact Nat.mod_add_div n b
    · have : n = 0 := by omega
      subst this
      rw [digits_zero]
      rfl
theorem digits_lt {b : Nat} (hb : 2 ≤ b) (n : Nat) : AllLt b (digits b n) := by
  induction n using Nat.strongRecOn with
  | ind n ih =>
    by_cases hn : 0 < n
    · rw [digits_pos hb hn]
      intro x hx
      rcases List.mem_cons.mp hx with rfl | hx
      · exact Nat.mod_lt _ (by omega)
      · exact ih (n / b) (Nat.div_lt_self hn hb) x hx
    · have : n = 0 := by omega
      subst this
      rw [digits_zero]
      intro x hx
      cases hx
theorem AllLt.nil {b : Nat} : AllLt b [] := fun _ h => nomatch h
theorem AllLt.cons {b x : Nat} {l : List Nat} (h : x < b) (h2 : AllLt b l) : AllLt b (x :: l) := fun y hy => by
  rcases List.mem_cons.mp hy with rfl | hy
  · exact h
  · exact h2 y hy
theorem AllLt.head {b x : Nat} {l : List Nat} (h : AllLt b (x :: l)) : x < b := h x List.mem_cons_self
theorem AllLt.tail {b x : Nat} {l : List Nat} (h : AllLt b (x :: l)) : AllLt b l := fun y hy => h y (List.mem_cons_of_mem _ hy)
theorem AllLt.append {b : Nat} {l m : List Nat} (h : AllLt b l) (h2 : AllLt b m) : AllLt b (l ++ m) := fun y hy => by
  rcases List.mem_append.mp hy with hy | hy
  · exact h y hy
  · exact h2 y hy
theorem AllLt.one {b x : Nat} (h : x < b) : AllLt b [x] := AllLt.cons h AllLt.nil
theorem AllLt.take {b : Nat} {l : List Nat} (h : AllLt b l) (k : Nat) : AllLt b (l.take k) := fun y hy => h y (List.mem_of_mem_take hy)
theorem AllLt.drop {b : Nat} {l : List Nat} (h : AllLt b l) (k : Nat) : AllLt b (l.drop k) := fun y hy => h y (List.mem_of_mem_drop hy)
theorem AllLt.reverse {b : Nat} {l : List Nat} (h : AllLt b l) : AllLt b l.reverse := fun y hy => h y (List.mem_reverse.mp hy)
theorem AllLt.get {b : Nat} {l : List Nat} (h : AllLt b l) {i : Nat} {x : Nat} (e : l[i]? = some x) : x < b := h x (List.mem_of_getElem? e)

theorem val_append (b : Nat) : ∀ (l m : List Nat), val b (l ++ m) = val b l + b ^ l.length * val b m
  | [], m => by
    show val b m = 0 + b ^ 0 * val b m
    rw [Nat.pow_zero]; omega
  | x :: l, m => by
    show x + b * val b (l ++ m) = (x + b * val b l) + b ^ (l.length + 1) * val b m
    rw [val_append b l m, Nat.pow_succ, Nat.mul_add, Nat.mul_comm (b ^ l.length) b, Nat.mul_assoc]
    omega
theorem val_snoc (b : Nat) (l : List Nat) (x : Nat) : val b (l ++ [x]) = val b l + b ^ l.length * x := by
  rw [val_append]
  show _ + b ^ l.length * (x + b * 0) = _
  rw [Nat.mul_zero, Nat.add_zero]
theorem val_lt {b : Nat} : ∀ {l : List Nat}, AllLt b l → val b l < b ^ l.length
  | [], _ => by
    show 0 < b ^ 0
    rw [Nat.pow_zero]; omega
  | x :: l, h => by
    have h1 := h.head
    have h2 := val_lt h.tail
    show x + b * val b l < b ^ (l.length + 1)
    rw [Nat.pow_succ]
    have : b * (val b l + 1) ≤ b * b ^ l.length := Nat.mul_le_mul_left b h2
    rw [Nat.mul_comm (b ^ l.length) b]
    rw [Nat.mul_add] at this
    omega
theorem val_zeros (b : Nat) : ∀ k, val b (List.replicate k 0) = 0
  | 0 => rfl
  | k + 1 => by
    rw [List.replicate_succ]
    show 0 + b * val b (List.replicate k 0) = 0
    rw [val_zeros b k]; omega
theorem AllLt.zeros {b : Nat} (hb : 0 < b) (k : Nat) : AllLt b (List.replicate k 0) := fun y hy => by
  rw [(List.mem_replicate.mp hy).2]; exact hb

/-! trim -/
theorem trim_cons (x : Nat) (l : List Nat) : trim (x :: l) = if trim l = [] ∧ x = 0 then [] else x :: trim l := rfl
theorem trim_zeros : ∀ k, trim (List.replicate k 0) = []
  | 0 => rfl
  | k + 1 => by
    rw [List.replicate_succ, trim_cons, trim_zeros k, if_pos ⟨rfl, rfl⟩]
theorem trim_snoc_zero : ∀ l : List Nat, trim (l ++ [0]) = trim l
  | [] => rfl
  | x :: l => by
    show trim (x :: (l ++ [0])) = trim (x :: l)
    rw [trim_cons, trim_cons, trim_snoc_zero l]
theorem trim_snoc_pos {y : Nat} (hy : y ≠ 0) : ∀ l : List Nat, trim (l ++ [y]) = l ++ [y]
  | [] => by
    show trim [y] = [y]
    rw [trim_cons, if_neg (fun h => hy h.2)]
    rfl
  | x :: l => by
    show trim (x :: (l ++ [y])) = x :: (l ++ [y])
    rw [trim_cons, trim_snoc_pos hy l, if_neg (fun h => by simp at h)]
theorem trim_append_zeros (l : List Nat) : ∀ k, trim (l ++ List.replicate k 0) = trim l
  | 0 => by rw [List.replicate_zero, List.append_nil]
  | k + 1 => by
    rw [List.replicate_succ', ← List.append_assoc, trim_snoc_zero, trim_append_zeros l k]
theorem trim_length_le : ∀ l : List Nat, (trim l).length ≤ l.length
  | [] => Nat.le_refl _
  | x :: l => by
    have := trim_length_le l
    rw [trim_cons]
    split
    · exact Nat.zero_le _
    · rw [List.length_cons, List.length_cons]; omega
theorem trim_eq_of_length : ∀ {l : List Nat}, l.length ≤ (trim l).length → trim l = l
  | [], _ => rfl
  | x :: l, h => by
    rw [trim_cons] at h ⊢
    split at h
    · simp at h
    · rename_i hc
      rw [if_neg hc]
      rw [List.length_cons, List.length_cons] at h
      rw [trim_eq_of_length (by omega)]
theorem digits_val {b : Nat} (hb : 2 ≤ b) : ∀ {l : List Nat}, AllLt b l → digits b (val b l) = trim l
  | [], _ => digits_zero b
  | x :: l, h => by
    have h1 := h.head
    have ih := digits_val hb h.tail
    show digits b (x + b * val b l) = trim (x :: l)
    rw [trim_cons]
    by_cases hz : x + b * val b l = 0
    · have hx : x = 0 := by omega
      have hv : val b l = 0 := by
        rcases Nat.eq_zero_or_pos (val b l) with h0 | h0
        · exact h0
        · have : 0 < b * val b l := Nat.mul_pos (by omega) h0
          omega
      rw [hv, digits_zero] at ih
      rw [hz, digits_zero, if_pos ⟨ih.symm, hx⟩]
    · rw [digits_pos hb (by omega)]
      have e1 : (x + b * val b l) % b = x := by
        rw [Nat.add_mul_mod_self_left, Nat.mod_eq_of_lt h1]
      have e2 : (x + b * val b l) / b = val b l := by
        rw [Nat.add_mul_div_left _ _ (by omega), Nat.div_eq_of_lt h1, Nat.zero_add]
      rw [e1, e2, ih, if_neg ?_]
      rintro ⟨q1, q2⟩
      rw [q1] at ih
      rw [(digits_nil hb).mp ih, q2] at hz
      simp at hz
theorem trim_digits {b : Nat} (hb : 2 ≤ b) (n : Nat) : trim (digits b n) = digits b n := by
  have h := digits_val hb (digits_lt hb n)
  rw [val_digits hb] at h
  exact h.symm
theorem digits_len_le {b n k : Nat} (hb : 2 ≤ b) (h : n < b ^ k) : (digits b n).length ≤ k := by
  induction k generalizing n with
  | zero =>
    have : n = 0 := by rw [Nat.pow_zero] at h; omega
    subst this
    rw [digits_zero]; exact Nat.le_refl _
  | succ k ih =>
    by_cases hn : 0 < n
    · rw [digits_pos hb hn, List.length_cons]
      have : n / b < b ^ k := by
        rw [Nat.pow_succ] at h
        exact Nat.div_lt_of_lt_mul (by rw [Nat.mul_comm]; exact h)
      have := ih this
      omega
    · have : n = 0 := by omega
      subst this
      rw [digits_zero]; exact Nat.zero_le _
theorem lt_pow_len {b : Nat} (hb : 2 ≤ b) (n : Nat) : n < b ^ (digits b n).length := by
  have h := val_lt (digits_lt hb n)
  rw [val_digits hb] at h
  exact h
theorem digits_len_lt {b n k : Nat} (hb : 2 ≤ b) : (digits b n).length ≤ k ↔ n < b ^ k := by
  constructor
  · intro h
    exact Nat.lt_of_lt_of_le (lt_pow_len hb n) (Nat.pow_le_pow_right (by omega) h)
  · exact digits_len_le hb
theorem digits_len_mono {b n m : Nat} (hb : 2 ≤ b) (h : n ≤ m) : (digits b n).length ≤ (digits b m).length :=
  (digits_len_lt hb).mpr (Nat.lt_of_le_of_lt h (lt_pow_len hb m))
theorem pow_le_of_len {b n k : Nat} (hb : 2 ≤ b) (h : k < (digits b n).length) : b ^ k ≤ n := by
  rcases Nat.lt_or_ge n (b ^ k) with q | q
  · have := digits_len_le hb q
    omega
  · exact q
/-- a list that is a row is the row of its number -/
theorem row_eq {b : Nat} (hb : 2 ≤ b) {l : List Nat} (h : AllLt b l) (ht : trim l = l) : l = digits b (val b l) := by
  rw [digits_val hb h, ht]
theorem row_of_long {b : Nat} (hb : 2 ≤ b) {l : List Nat} (h : AllLt b l) (hn : l.length ≤ (digits b (val b l)).length) : l = digits b (val b l) := by
  refine row_eq hb h (trim_eq_of_length ?_)
  rw [← digits_val hb h]
  exact hn
theorem digits_val_snoc {b : Nat} (hb : 2 ≤ b) {l : List Nat} {y : Nat} (h : AllLt b l) (hy : y < b) (h0 : y ≠ 0) : digits b (val b (l ++ [y])) = l ++ [y] := by
  rw [digits_val hb (h.append (AllLt.one hy)), trim_snoc_pos h0]
theorem digits_last {b n : Nat} (hb : 2 ≤ b) {l : List Nat} {y : Nat} (h : digits b n = l ++ [y]) : y ≠ 0 := by
  intro h0
  have t := trim_digits hb n
  rw [h, h0, trim_snoc_zero] at t
  have := trim_length_le l
  rw [t, List.length_append, List.length_singleton] at this
  omega

/-! parts of a row -/
theorem val_take_drop (b : Nat) (l : List Nat) (k : Nat) (h : k ≤ l.length) : val b l = val b (l.take k) + b ^ k * val b (l.drop k) := by
  have e := val_append b (l.take k) (l.drop k)
  rw [List.take_append_drop, List.length_take, Nat.min_eq_left h] at e
  exact e
theorem val_drop {b : Nat} (hb : 2 ≤ b) {l : List Nat} (h : AllLt b l) (k : Nat) : val b (l.drop k) = val b l / b ^ k := by
  rcases Nat.lt_or_ge l.length k with q | q
  · rw [List.drop_eq_nil_of_le (Nat.le_of_lt q)]
    have := val_lt h
    have h2 : b ^ l.length ≤ b ^ k := Nat.pow_le_pow_right (by omega) (Nat.le_of_lt q)
    exact (Nat.div_eq_of_lt (Nat.lt_of_lt_of_le this h2)).symm
  · have e := val_take_drop b l k q
    have hl := val_lt (h.take k)
    rw [List.length_take, Nat.min_eq_left q] at hl
    rw [e, Nat.add_mul_div_left _ _ (Nat.pow_pos (by omega)), Nat.div_eq_of_lt hl, Nat.zero_add]
theorem val_take {b : Nat} (hb : 2 ≤ b) {l : List Nat} (h : AllLt b l) (k : Nat) : val b (l.take k) = val b l % b ^ k := by
  rcases Nat.lt_or_ge l.length k with q | q
  · rw [List.take_of_length_le (Nat.le_of_lt q)]
    have := val_lt h
    have h2 : b ^ l.length ≤ b ^ k := Nat.pow_le_pow_right (by omega) (Nat.le_of_lt q)
    exact (Nat.mod_eq_of_lt (Nat.lt_of_lt_of_le this h2)).symm
  · have e := val_take_drop b l k q
    have hl := val_lt (h.take k)
    rw [List.length_take, Nat.min_eq_left q] at hl
    rw [e, Nat.add_mul_mod_self_left, Nat.mod_eq_of_lt hl]
theorem digits_drop {b : Nat} (hb : 2 ≤ b) (n k : Nat) : (digits b n).drop k = digits b (n / b ^ k) := by
  induction k generalizing n with
  | zero => rw [Nat.pow_zero, Nat.div_one]; rfl
  | succ k ih =>
    by_cases hn : 0 < n
    · rw [digits_pos hb hn, List.drop_succ_cons, ih, Nat.pow_succ, Nat.mul_comm (b ^ k) b, Nat.div_div_eq_div_mul]
    · have : n = 0 := by omega
      subst this
      rw [Nat.zero_div, digits_zero]; rfl
theorem trim_take {b : Nat} (hb : 2 ≤ b) (n k : Nat) : trim ((digits b n).take k) = digits b (n % b ^ k) := by
  rw [← digits_val hb ((digits_lt hb n).take k), val_take hb (digits_lt hb n), val_digits hb]
theorem digits_mul_pow {b n : Nat} (hb : 2 ≤ b) (hn : 0 < n) (k : Nat) : digits b (n * b ^ k) = List.replicate k 0 ++ digits b n := by
  have e : val b (List.replicate k 0 ++ digits b n) = n * b ^ k := by
    rw [val_append, val_zeros, List.length_replicate, val_digits hb, Nat.zero_add, Nat.mul_comm]
  rw [← e]
  refine (row_of_long hb ((AllLt.zeros (by omega) k).append (digits_lt hb n)) ?_).symm
  rw [e, List.length_append, List.length_replicate]
  have hp : 0 < (digits b n).length := by
    rw [digits_pos hb hn]; exact Nat.succ_pos _
  rcases Nat.lt_or_ge (digits b (n * b ^ k)).length (k + (digits b n).length) with q | q
  · have h1 : n * b ^ k < b ^ (k + (digits b n).length - 1) := (digits_len_lt hb).mp (by omega)
    have h2 : b ^ ((digits b n).length - 1) ≤ n := pow_le_of_len hb (by omega)
    have h3 : b ^ (k + (digits b n).length - 1) = b ^ ((digits b n).length - 1) * b ^ k := by
      rw [← Nat.pow_add]; congr 1; omega
    rw [h3] at h1
    have := Nat.mul_le_mul_right (b ^ k) h2
    omega
  · exact q
theorem digits_one {b : Nat} (hb : 2 ≤ b) : digits b 1 = [1] := by
  rw [digits_pos hb (by omega), Nat.mod_eq_of_lt (by omega), Nat.div_eq_of_lt (by omega), digits_zero]
theorem digits_small {b n : Nat} (hb : 2 ≤ b) (h : n < b) (h0 : 0 < n) : digits b n = [n] := by
  rw [digits_pos hb h0, Nat.mod_eq_of_lt h, Nat.div_eq_of_lt h, digits_zero]
theorem digits_cons {b n x : Nat} (hb : 2 ≤ b) (hx : x < b) (h : 0 < x + b * n) : digits b (x + b * n) = x :: digits b n := by
  rw [digits_pos hb h, Nat.add_mul_mod_self_left, Nat.mod_eq_of_lt hx, Nat.add_mul_div_left _ _ (by omega), Nat.div_eq_of_lt hx, Nat.zero_add]
/-- a row and a figure behind it -/
theorem digits_snoc_one {b : Nat} (hb : 2 ≤ b) (n : Nat) : digits b n ++ [1] = digits b (n + b ^ (digits b n).length) := by
  have h := digits_val_snoc hb (digits_lt hb n) (y := 1) (by omega) (by omega)
  rw [val_snoc, val_digits hb, Nat.mul_one] at h
  exact h.symm
theorem digits_inj {b n m : Nat} (hb : 2 ≤ b) (h : digits b n = digits b m) : n = m := by
  have := congrArg (val b) h
  rw [val_digits hb, val_digits hb] at this
  exact this
end Fg
namespace Fg
/-! ### loops from the top: turn i takes l[len - 1 - i] -/
def top (b : Nat) (l : List Nat) (i : Nat) : Nat := val b (l.drop (l.length - i))
theorem top_zero (b : Nat) (l : List Nat) : top b l 0 = 0 := by
  unfold top
  rw [Nat.sub_zero, List.drop_length]
  rfl
theorem top_all (b : Nat) (l : List Nat) : top b l l.length = val b l := by
  unfold top
  rw [Nat.sub_self]
  rfl
theorem top_succ (b : Nat) (l : List Nat) {i x : Nat} (h : l[l.length - 1 - i]? = some x) (hi : i < l.length) : top b l (i + 1) = x + b * top b l i := by
  unfold top
  have e : l.drop (l.length - (i + 1)) = x :: l.drop (l.length - i) := by
    have h1 : l.length - (i + 1) < l.length := by omega
    have h2 : l[l.length - (i + 1)] = x := by
      have h3 : l.length - 1 - i = l.length - (i + 1) := by omega
      rw [h3, List.getElem?_eq_getElem h1] at h
      exact Option.some.inj h
    rw [List.drop_eq_getElem_cons h1, h2]
    congr 2
    omega
  rw [e]
  rfl
theorem top_lt {b : Nat} {l : List Nat} (h : AllLt b l) (i : Nat) (hi : i ≤ l.length) : top b l i < b ^ i := by
  have := val_lt (h.drop (l.length - i))
  rw [List.length_drop] at this
  have e : l.length - (l.length - i) = i := by omega
  rw [e] at this
  exact this

/-! ### loops from the bottom -/
theorem val_take_succ (b : Nat) (l : List Nat) (i : Nat) : val b (l.take (i + 1)) = val b (l.take i) + b ^ i * l.getD i 0 := by
  rcases Nat.lt_or_ge i l.length with q | q
  · rw [List.take_succ_eq_append_getElem q, val_snoc, List.length_take, Nat.min_eq_left (Nat.le_of_lt q)]
    rw [List.getD_eq_getElem?_getD, List.getElem?_eq_getElem q]
    rfl
  · rw [List.take_of_length_le (by omega), List.take_of_length_le q]
    rw [List.getD_eq_getElem?_getD, List.getElem?_eq_none q]
    rfl
theorem getD_lt {b : Nat} (hb : 0 < b) {l : List Nat} (h : AllLt b l) (i : Nat) : l.getD i 0 < b := by
  rw [List.getD_eq_getElem?_getD]
  cases e : l[i]? with
  | none => exact hb
  | some x => exact h.get e

/-- the sum's loop -/
structure SumI (b : Nat) (one other : List Nat) (i : Nat) (acc : List Nat) (over : Nat) : Prop where
  lt : AllLt b acc
  len : acc.length = i
  ov : over ≤ 1
  eq : val b acc + b ^ i * over = val b (one.take i) + val b (other.take i)
theorem SumI.start (b : Nat) (one other : List Nat) : SumI b one other 0 [] 0 := ⟨AllLt.nil, rfl, by omega, by
  show 0 + b ^ 0 * 0 = 0 + 0
  omega⟩
theorem SumI.step {b : Nat} (hb : 2 ≤ b) {one other : List Nat} {i : Nat} {acc : List Nat} {over : Nat} (h1 : AllLt b one) (h2 : AllLt b other) (s : SumI b one other i acc over) :
    SumI b one other (i + 1) (acc ++ [(one.getD i 0 + other.getD i 0 + over) % b]) ((one.getD i 0 + other.getD i 0 + over) / b) := by
  have a1 := getD_lt (by omega) h1 i
  have a2 := getD_lt (by omega) h2 i
  have a3 := s.ov
  have e1 := val_take_succ b one i
  have e2 := val_take_succ b other i
  generalize one.getD i 0 = x at *
  generalize other.getD i 0 = y at *
  refine ⟨s.lt.append (AllLt.one (Nat.mod_lt _ (by omega))), by rw [List.length_append, s.len]; rfl, ?_, ?_⟩
  · have : (x + y + over) / b < 2 := Nat.div_lt_of_lt_mul (by omega)
    omega
  · rw [val_snoc, s.len, e1, e2]
    have hm := Nat.mod_add_div (x + y + over) b
    have hp : b ^ (i + 1) * ((x + y + over) / b) = b ^ i * (b * ((x + y + over) / b)) := by rw [Nat.pow_succ, Nat.mul_assoc]
    have hq : b ^ i * (x + y + over) = b ^ i * ((x + y + over) % b) + b ^ i * (b * ((x + y + over) / b)) := by rw [← Nat.mul_add, hm]
    have hr : b ^ i * (x + y + over) = b ^ i * x + b ^ i * y + b ^ i * over := by rw [Nat.mul_add, Nat.mul_add]
    have := s.eq
    rw [hp]
    omega
theorem SumI.done {b n m : Nat} (hb : 2 ≤ b) {acc : List Nat} {over : Nat} (s : SumI b (digits b n) (digits b m) (max (digits b n).length (digits b m).length) acc over) :
    (if 0 < over then acc ++ [over] else acc) = digits b (n + m) := by
  have e := s.eq
  rw [List.take_of_length_le (Nat.le_max_left _ _), List.take_of_length_le (Nat.le_max_right _ _), val_digits hb, val_digits hb] at e
  have ho := s.ov
  split
  · rename_i h0
    have := digits_val_snoc hb s.lt (y := over) (by omega) (by omega)
    rw [val_snoc, s.len, e] at this
    exact this.symm
  · rename_i h0
    have h0 : over = 0 := by omega
    rw [h0, Nat.mul_zero, Nat.add_zero] at e
    rw [← e]
    refine row_of_long hb s.lt ?_
    rw [e, s.len]
    have l1 : (digits b n).length ≤ (digits b (n + m)).length := digits_len_mono hb (by omega)
    have l2 : (digits b m).length ≤ (digits b (n + m)).length := digits_len_mono hb (by omega)
    exact Nat.max_le.mpr ⟨l1, l2⟩

/-- the difference's loop -/
structure DifI (b : Nat) (one other : List Nat) (i : Nat) (acc : List Nat) (owed : Nat) : Prop where
  lt : AllLt b acc
  len : acc.length = i
  ov : owed ≤ 1
  eq : val b (one.take i) + b ^ i * owed = val b acc + val b (other.take i)
theorem DifI.start (b : Nat) (one other : List Nat) : DifI b one other 0 [] 0 := ⟨AllLt.nil, rfl, by omega, by
  show 0 + b ^ 0 * 0 = 0 + 0
  omega⟩
/-- no debt -/
theorem DifI.step0 {b : Nat} (hb : 2 ≤ b) {one other : List Nat} {i : Nat} {acc : List Nat} {owed z : Nat} (h1 : AllLt b one) (h2 : AllLt b other) (s : DifI b one other i acc owed)
    (hz : z + other.getD i 0 + owed = one.getD i 0) : DifI b one other (i + 1) (acc ++ [z]) 0 := by
  have a1 := getD_lt (by omega) h1 i
  have e1 := val_take_succ b one i
  have e2 := val_take_succ b other i
  generalize one.getD i 0 = x at *
  generalize other.getD i 0 = y at *
  refine ⟨s.lt.append (AllLt.one (by omega)), by rw [List.length_append, s.len]; rfl, by omega, ?_⟩
  rw [val_snoc, s.len, e1, e2]
  have hr : b ^ i * x = b ^ i * z + b ^ i * y + b ^ i * owed := by rw [← Nat.mul_add, ← Nat.mul_add, hz]
  have := s.eq
  omega
theorem DifI.step1 {b : Nat} (hb : 2 ≤ b) {one other : List Nat} {i : Nat} {acc : List Nat} {owed z : Nat} (h1 : AllLt b one) (h2 : AllLt b other) (s : DifI b one other i acc owed)
    (hz : z + other.getD i 0 + owed = one.getD i 0 + b) (hl : z < b) : DifI b one other (i + 1) (acc ++ [z]) 1 := by
  have a1 := getD_lt (by omega) h1 i
  have e1 := val_take_succ b one i
  have e2 := val_take_succ b other i
  generalize one.getD i 0 = x at *
  generalize other.getD i 0 = y at *
  refine ⟨s.lt.append (AllLt.one hl), by rw [List.length_append, s.len]; rfl, by omega, ?_⟩
  rw [val_snoc, s.len, e1, e2]
  have hr : b ^ i * x + b ^ i * b = b ^ i * z + b ^ i * y + b ^ i * owed := by rw [← Nat.mul_add, ← Nat.mul_add, ← Nat.mul_add, hz]
  have hp : b ^ (i + 1) * 1 = b ^ i * b := by rw [Nat.pow_succ, Nat.mul_one]
  have := s.eq
  omega
theorem DifI.done {b n m : Nat} (hb : 2 ≤ b) (hle : m ≤ n) {acc : List Nat} {owed : Nat} (s : DifI b (digits b n) (digits b m) (digits b n).length acc owed) : trim acc = digits b (n - m) := by
  have e := s.eq
  rw [List.take_of_length_le (Nat.le_refl _), List.take_of_length_le (digits_len_mono hb hle), val_digits hb, val_digits hb] at e
  have hv := val_lt s.lt
  rw [s.len] at hv
  have ho := s.ov
  have : owed = 0 := by
    rcases Nat.eq_zero_or_pos owed with q | q
    · exact q
    · have h1 : owed = 1 := by omega
      rw [h1, Nat.mul_one] at e
      omega
  rw [this, Nat.mul_zero] at e
  rw [← digits_val hb s.lt]
  congr 1
  omega

/-- the scaled row's loop -/
structure MulI (b : Nat) (one : List Nat) (f i : Nat) (acc : List Nat) (over : Nat) : Prop where
  lt : AllLt b acc
  len : acc.length = i
  ov : over < b
  eq : val b acc + b ^ i * over = f * val b (one.take i)
theorem MulI.start {b : Nat} (hb : 2 ≤ b) (one : List Nat) (f : Nat) : MulI b one f 0 [] 0 := ⟨AllLt.nil, rfl, by omega, by
  show 0 + b ^ 0 * 0 = f * 0
  omega⟩
theorem MulI.step {b : Nat} (hb : 2 ≤ b) {one : List Nat} {f i x : Nat} {acc : List Nat} {over : Nat} (h1 : AllLt b one) (hf : f < b) (hx : one[i]? = some x) (s : MulI b one f i acc over) :
    MulI b one f (i + 1) (acc ++ [(x * f + over) % b]) ((x * f + over) / b) := by
  have a1 : x < b := h1.get hx
  have e1 := val_take_succ b one i
  have ex : one.getD i 0 = x := by rw [List.getD_eq_getElem?_getD, hx]; rfl
  rw [ex] at e1
  have ho := s.ov
  refine ⟨s.lt.append (AllLt.one (Nat.mod_lt _ (by omega))), by rw [List.length_append, s.len]; rfl, ?_, ?_⟩
  · refine Nat.div_lt_of_lt_mul ?_
    have h2 : x * f ≤ (b - 1) * (b - 1) := Nat.mul_le_mul (by omega) (by omega)
    have h3 : (b - 1) * (b - 1) + (b - 1) = (b - 1) * b := by
      rw [← Nat.mul_succ]; congr 1; omega
    have h4 : (b - 1) * b + b = b * b := by
      rw [← Nat.succ_mul]; congr 1; omega
    omega
  · rw [val_snoc, s.len, e1]
    have hm := Nat.mod_add_div (x * f + over) b
    have hp : b ^ (i + 1) * ((x * f + over) / b) = b ^ i * (b * ((x * f + over) / b)) := by rw [Nat.pow_succ, Nat.mul_assoc]
    have hq : b ^ i * (x * f + over) = b ^ i * ((x * f + over) % b) + b ^ i * (b * ((x * f + over) / b)) := by rw [← Nat.mul_add, hm]
    have hr : b ^ i * (x * f + over) = b ^ i * (x * f) + b ^ i * over := by rw [Nat.mul_add]
    have hs : f * (val b (one.take i) + b ^ i * x) = f * val b (one.take i) + b ^ i * (x * f) := by
      rw [Nat.mul_add, Nat.mul_left_comm f (b ^ i) x, Nat.mul_comm f x]
    have := s.eq
    rw [hp, hs]
    omega
theorem MulI.done {b n f : Nat} (hb : 2 ≤ b) {acc : List Nat} {over : Nat} (s : MulI b (digits b n) f (digits b n).length acc over) : trim (if 0 < over then acc ++ [over] else acc) = digits b (n * f) := by
  have e := s.eq
  rw [List.take_of_length_le (Nat.le_refl _), val_digits hb] at e
  have ho := s.ov
  split
  · rw [← digits_val hb (s.lt.append (AllLt.one ho)), val_snoc, s.len, e, Nat.mul_comm]
  · rename_i h0
    have h0 : over = 0 := by omega
    rw [h0, Nat.mul_zero, Nat.add_zero] at e
    rw [← digits_val hb s.lt, e, Nat.mul_comm]

/-- dividing from the top: by f, the base b -/
structure PartI (b T f : Nat) (i : Nat) (found : List Nat) (left : Nat) : Prop where
  lt : AllLt b found
  len : found.length = i
  q : val b found.reverse = T / f
  r : left = T % f
theorem PartI.start {b f : Nat} {T : Nat} (h : T < f) : PartI b T f 0 [] T := ⟨AllLt.nil, rfl, by
  rw [Nat.div_eq_of_lt h]; rfl, (Nat.mod_eq_of_lt h).symm⟩
theorem div_step {b T f x : Nat} (hf : 0 < f) : (x + b * T) / f = b * (T / f) + (x + b * (T % f)) / f ∧ (x + b * T) % f = (x + b * (T % f)) % f := by
  have h := Nat.mod_add_div T f
  have e : x + b * T = (x + b * (T % f)) + f * (b * (T / f)) := by
    have h2 : b * T = b * (T % f) + b * (f * (T / f)) := by rw [← Nat.mul_add, h]
    rw [h2, Nat.mul_left_comm b f]
    omega
  rw [e]
  constructor
  · rw [Nat.add_mul_div_left _ _ hf, Nat.add_comm]
  · rw [Nat.add_mul_mod_self_left]
theorem rem_step_lt {b f x left : Nat} (hx : x < b) (hl : left < f) : x + b * left < f * b := by
  have : b * (left + 1) ≤ b * f := Nat.mul_le_mul_left b hl
  rw [Nat.mul_comm f b]
  rw [Nat.mul_add] at this
  omega
theorem PartI.step {b T f x i : Nat} {found : List Nat} {left : Nat} (hf : 0 < f) (hx : x < b) (s : PartI b T f i found left) :
    PartI b (x + b * T) f (i + 1) (found ++ [(x + b * left) / f]) ((x + b * left) % f) := by
  have hr := s.r
  have hl : left < f := by rw [hr]; exact Nat.mod_lt _ hf
  obtain ⟨d1, d2⟩ := div_step (b := b) (T := T) (x := x) hf
  refine ⟨s.lt.append (AllLt.one ?_), by rw [List.length_append, s.len]; rfl, ?_, ?_⟩
  · exact Nat.div_lt_of_lt_mul (rem_step_lt hx hl)
  · rw [List.reverse_append]
    show (x + b * left) / f + b * val b found.reverse = _
    rw [s.q, d1, hr]
    omega
  · rw [d2, hr]
theorem PartI.done {b T f i : Nat} {found : List Nat} {left : Nat} (hb : 2 ≤ b) (s : PartI b T f i found left) : trim found.reverse = digits b (T / f) := by
  rw [← digits_val hb s.lt.reverse, s.q]

/-- the search for a figure of the quotient -/
theorem often_start {b n m at_ : Nat} (hb : 2 ≤ b) (hm : 0 < m) (hn : n < m * b) (hlead : b ^ at_ ≤ m) :
    (n / b ^ at_) / (m / b ^ at_ + 1) ≤ n / m ∧ n / m ≤ min (b - 1) ((n / b ^ at_) / (m / b ^ at_)) ∧ 0 < m / b ^ at_ := by
  have hB : 0 < b ^ at_ := Nat.pow_pos (by omega)
  have hl : 0 < m / b ^ at_ := Nat.div_pos hlead hB
  have hnb : n / m < b := Nat.div_lt_of_lt_mul hn
  refine ⟨?_, Nat.le_min.mpr ⟨by omega, ?_⟩, hl⟩
  · rw [Nat.le_div_iff_mul_le hm]
    have h1 : (n / b ^ at_) / (m / b ^ at_ + 1) * (m / b ^ at_ + 1) ≤ n / b ^ at_ := Nat.div_mul_le_self _ _
    have h2 : m ≤ (m / b ^ at_ + 1) * b ^ at_ := by
      have := Nat.mod_add_div m (b ^ at_)
      have h3 := Nat.mod_lt m hB
      rw [Nat.add_mul, Nat.one_mul, Nat.mul_comm (m / b ^ at_)]
      omega
    have h3 := Nat.mul_le_mul_left ((n / b ^ at_) / (m / b ^ at_ + 1)) h2
    rw [← Nat.mul_assoc] at h3
    have h4 := Nat.mul_le_mul_right (b ^ at_) h1
    have h5 : n / b ^ at_ * b ^ at_ ≤ n := Nat.div_mul_le_self _ _
    omega
  · rw [Nat.le_div_iff_mul_le hl, Nat.le_div_iff_mul_le hB, Nat.mul_assoc]
    have h1 : m / b ^ at_ * b ^ at_ ≤ m := Nat.div_mul_le_self _ _
    have h2 := Nat.mul_le_mul_left (n / m) h1
    have h3 : n / m * m ≤ n := Nat.div_mul_le_self _ _
    omega

/-- which row is the greater -/
theorem cmp_top {b : Nat} (hb : 2 ≤ b) {one other : List Nat} {a x y : Nat} (h1 : AllLt b one) (h2 : AllLt b other) (ha : a < one.length) (ha2 : a < other.length)
    (hd : one.drop (a + 1) = other.drop (a + 1)) (hx : one[a]? = some x) (hy : other[a]? = some y) (h : x < y) : val b one < val b other := by
  have e1 := val_take_drop b one a (by omega)
  have e2 := val_take_drop b other a (by omega)
  rw [List.drop_eq_getElem_cons ha] at e1
  rw [List.drop_eq_getElem_cons ha2] at e2
  rw [List.getElem?_eq_getElem ha] at hx
  rw [List.getElem?_eq_getElem ha2] at hy
  rw [Option.some.inj hx] at e1
  rw [Option.some.inj hy, ← hd] at e2
  have l1 := val_lt (h1.take a)
  rw [List.length_take, Nat.min_eq_left (by omega)] at l1
  have e1' : val b one = val b (one.take a) + b ^ a * (x + b * val b (one.drop (a + 1))) := e1
  have e2' : val b other = val b (other.take a) + b ^ a * (y + b * val b (one.drop (a + 1))) := e2
  generalize b * val b (one.drop (a + 1)) = R at *
  have h3 : b ^ a * (x + R + 1) ≤ b ^ a * (y + R) := Nat.mul_le_mul_left _ (by omega)
  rw [Nat.mul_add, Nat.mul_one] at h3
  omega

/-- the product by halves -/
theorem halves_eq {n0 n1 m0 m1 B : Nat} : n0 * m0 + ((n0 + n1) * (m0 + m1) - n0 * m0 - n1 * m1) * B + n1 * m1 * (B * B) = (n0 + B * n1) * (m0 + B * m1) := by
  have h : (n0 + n1) * (m0 + m1) - n0 * m0 - n1 * m1 = n0 * m1 + n1 * m0 := by
    have : (n0 + n1) * (m0 + m1) = n0 * m0 + n0 * m1 + (n1 * m0 + n1 * m1) := by
      rw [Nat.add_mul, Nat.mul_add, Nat.mul_add]
    omega
  rw [h]
  have : (n0 + B * n1) * (m0 + B * m1) = n0 * m0 + n0 * (B * m1) + (B * n1 * m0 + B * n1 * (B * m1)) := by
    rw [Nat.add_mul, Nat.mul_add, Nat.mul_add]
  rw [this, Nat.add_mul]
  have a1 : n0 * (B * m1) = n0 * m1 * B := by rw [Nat.mul_comm B m1, Nat.mul_assoc]
  have a2 : B * n1 * m0 = n1 * m0 * B := by rw [Nat.mul_comm B n1, Nat.mul_assoc, Nat.mul_comm B m0, ← Nat.mul_assoc]
  have a3 : B * n1 * (B * m1) = n1 * m1 * (B * B) := by
    rw [Nat.mul_comm B n1, Nat.mul_assoc, Nat.mul_assoc]
    congr 1
    rw [← Nat.mul_assoc, Nat.mul_comm (B * B) m1]
  rw [a1, a2, a3]
  omega
theorem halves_le {n0 n1 m0 m1 : Nat} : n0 * m0 ≤ (n0 + n1) * (m0 + m1) ∧ n1 * m1 ≤ (n0 + n1) * (m0 + m1) - n0 * m0 := by
  have : (n0 + n1) * (m0 + m1) = n0 * m0 + n0 * m1 + (n1 * m0 + n1 * m1) := by
    rw [Nat.add_mul, Nat.mul_add, Nat.mul_add]
  omega

/-- how many products of two figures the way of halves takes -/
def eff : Nat → Nat → Nat → Nat → Nat → Nat
  | 0, _, b, n, m => (digits b n).length * (digits b m).length
  | k + 1, l, b, n, m => if min (digits b n).length (digits b m).length ≤ l then (digits b n).length * (digits b m).length else
    let h := (max (digits b n).length (digits b m).length + 1) / 2
    eff k l b (n % b ^ h) (m % b ^ h) + eff k l b (n / b ^ h) (m / b ^ h) + eff k l b (n % b ^ h + n / b ^ h) (m % b ^ h + m / b ^ h)
theorem eff_short {k l b n m : Nat} (h : min (digits b n).length (digits b m).length ≤ l) : eff (k + 1) l b n m = (digits b n).length * (digits b m).length := by
  unfold eff
  rw [if_pos h]
theorem eff_long {k l b n m h : Nat} (hn : ¬ min (digits b n).length (digits b m).length ≤ l) (hh : (max (digits b n).length (digits b m).length + 1) / 2 = h) :
    eff (k + 1) l b n m = eff k l b (n % b ^ h) (m % b ^ h) + eff k l b (n / b ^ h) (m / b ^ h) + eff k l b (n % b ^ h + n / b ^ h) (m % b ^ h + m / b ^ h) := by
  rw [eff, if_neg hn, hh]
theorem digits_len_div {b n : Nat} (hb : 2 ≤ b) (h : 0 < n) : (digits b n).length = (digits b (n / b)).length + 1 := by
  rw [digits_pos hb h]
  rfl
theorem digits_len_pred {b n k : Nat} (hb : 2 ≤ b) (h : (digits b n).length ≤ k) : n < b ^ k := (digits_len_lt hb).mp h
/-- the tops of a division's row and divisor -/
theorem tops_small {b n m : Nat} (hb : 2 ≤ b) (hb6 : b ≤ 1000000) (hm : 0 < m) (hn : n < m * b) : n / b ^ ((digits b m).length - 2) < 1000000000000000000 ∧ m / b ^ ((digits b m).length - 2) < 1000000000000 ∧ b ^ ((digits b m).length - 2) ≤ m := by
  have hl := lt_pow_len hb m
  generalize hk : (digits b m).length = k at *
  have h1 : b ^ k ≤ b ^ (k - 2) * b ^ 2 := by
    rw [← Nat.pow_add]
    exact Nat.pow_le_pow_right (by omega) (by omega)
  have h2 : b ^ 2 ≤ 1000000 ^ 2 := Nat.pow_le_pow_left hb6 2
  have h3 : b ^ (k - 2) * b ^ 2 ≤ b ^ (k - 2) * 1000000000000 := Nat.mul_le_mul_left _ h2
  have hM : m < b ^ (k - 2) * 1000000000000 := by omega
  refine ⟨?_, Nat.div_lt_of_lt_mul hM, ?_⟩
  · refine Nat.div_lt_of_lt_mul (Nat.lt_of_lt_of_le hn ?_)
    refine Nat.le_trans (Nat.mul_le_mul (Nat.le_of_lt hM) hb6) ?_
    rw [Nat.mul_assoc]
    exact Nat.le_refl _
  · have hk1 : 1 ≤ k := by
      rcases Nat.eq_zero_or_pos k with z | z
      · rw [z] at hl
        have : b ^ 0 = 1 := rfl
        omega
      · exact z
    refine Nat.le_trans (Nat.pow_le_pow_right (by omega) (by omega : k - 2 ≤ k - 1)) (pow_le_of_len hb (by omega))
theorem trim_digits_cons {b x L : Nat} (hb : 2 ≤ b) (hx : x < b) : trim ([x] ++ digits b L) = digits b (x + b * L) := by
  have h : AllLt b ([x] ++ digits b L) := (AllLt.one hx).append (digits_lt hb L)
  rw [← digits_val hb h]
  congr 1
  show x + b * val b (digits b L) = _
  rw [val_digits hb]
theorem drop_step {b n i at_ u : Nat} (hb : 2 ≤ b) (hi : i < at_) (hu : ((digits b n).take at_)[at_ - 1 - i]? = some u) : n / b ^ (at_ - (i + 1)) = u + b * (n / b ^ (at_ - i)) := by
  have e1 : at_ - (i + 1) = at_ - 1 - i := by omega
  have e2 : at_ - i = at_ - 1 - i + 1 := by omega
  have e3 : (digits b n)[at_ - 1 - i]? = some u := by
    rw [List.getElem?_take] at hu
    rw [if_pos (by omega)] at hu
    exact hu
  have h1 := val_drop hb (digits_lt hb n) (at_ - 1 - i)
  have h2 := val_drop hb (digits_lt hb n) (at_ - 1 - i + 1)
  rw [val_digits hb] at h1 h2
  obtain ⟨h3, h4⟩ := List.getElem?_eq_some_iff.mp e3
  rw [List.drop_eq_getElem_cons h3, h4] at h1
  rw [e1, e2, ← h1, ← h2]
  rfl
theorem digits_len_other {b c n k : Nat} (hb : 2 ≤ b ∧ b ≤ 1000000) (hc : 2 ≤ c) (h : (digits b n).length ≤ k) : (digits c n).length ≤ 20 * k := by
  refine digits_len_le hc (Nat.lt_of_lt_of_le (digits_len_pred hb.1 h) ?_)
  rw [Nat.pow_mul]
  refine Nat.pow_le_pow_left (Nat.le_trans hb.2 ?_) k
  exact Nat.le_trans (by decide : 1000000 ≤ 2 ^ 20) (Nat.pow_le_pow_left hc 20)
theorem digits_prepend {b n : Nat} (hb : 2 ≤ b) {acc : List Nat} (hab : AllLt b acc) (hne : digits b n ≠ []) : acc ++ digits b n = digits b (val b (acc ++ digits b n)) := by
  have lt := digits_lt hb n
  have ho := List.dropLast_concat_getLast hne
  have hx := digits_last hb ho.symm
  have h3 := digits_val_snoc hb (l := acc ++ (digits b n).dropLast) (y := (digits b n).getLast hne) (hab.append (fun y hy => lt y ((List.dropLast_sublist (digits b n)).subset hy))) (lt _ (List.getLast_mem hne)) hx
  rw [List.append_assoc, ho] at h3
  exact h3.symm

end Fg
set_option Elab.async false
set_option linter.all false
set_option maxRecDepth 100000
/-! the base of all proofs: what is tracked, calls in one word, steps of a reading -/
namespace Fg
open PySem PySem.Spec PyProof.Rows L2

/-! ### what is tracked: the local objects, over the entry's heap -/
structure Trk (H0 H : Hp) (L : List (Addr × HO)) : Prop where
  same : Same H0 H
  new : ∀ p ∈ L, H0 p.1 = none
  nd : (L.map (·.1)).Nodup
  at_ : ∀ p ∈ L, H p.1 = some p.2
section
variable {H0 H H' : Hp} {L : List (Addr × HO)} {p : Addr} {o o' : HO}
theorem Trk.nil (H : Hp) : Trk H H [] := ⟨Same.refl H, fun _ h => (nomatch h), List.nodup_nil, fun _ h => (nomatch h)⟩
theorem Trk.call (T : Trk H0 H L) (s : Same H H') : Trk H0 H' L := ⟨T.same.trans s, T.new, T.nd, fun p hp => s _ _ (T.at_ p hp)⟩
theorem Trk.add (T : Trk H0 H L) (s : Same H H') (hn : H p = none) (h : H' p = some o) : Trk H0 H' ((p, o) :: L) := by
  refine ⟨T.same.trans s, fun q hq => ?_, ?_, fun q hq => ?_⟩
  · rcases List.mem_cons.mp hq with rfl | hq
    · exact T.same.free hn
    · exact T.new q hq
  · rw [List.map_cons]
    refine List.nodup_cons.mpr ⟨fun hm => ?_, T.nd⟩
    obtain ⟨q, hq, e⟩ := List.mem_map.mp hm
    have := T.at_ q hq
    rw [e] at this
    rw [show H p = none from hn] at this
    cases this
  · rcases List.mem_cons.mp hq with rfl | hq
    · exact h
    · exact s _ _ (T.at_ q hq)
theorem same_upd {H : Hp} {p : Addr} {o : HO} (h : H p = none) : Same H (upd H p o) := fun b x e => by
  rw [upd_ne (ne_of_none e h)]
  exact e
theorem Trk.lay (T : Trk H0 H L) (hn : H p = none) : Trk H0 (upd H p o) ((p, o) :: L) := T.add (same_upd hn) hn upd_same
theorem Trk.get (T : Trk H0 H L) {i : Nat} (e : L[i]? = some (p, o)) : H p = some o := T.at_ _ (List.mem_of_getElem? e)
theorem Trk.up (T : Trk H0 H L) (e : H0 p = some o) : H p = some o := T.same _ _ e
theorem Trk.sq {K : PySem.W.Frag} {xs : List V} (T : Trk H0 H L) (e : SqL K H0 p xs) : SqL K H p xs := T.same.seq e
theorem mem_set_ne : ∀ {L : List (Addr × HO)} {i : Nat} {p : Addr} {o o' : HO}, L[i]? = some (p, o) → (L.map (·.1)).Nodup → ∀ q ∈ L.set i (p, o'), (q = (p, o')) ∨ (q ∈ L ∧ q.1 ≠ p)
  | [], i, p, o, o', e, _, q, hq => by simp at e
  | (a, u) :: L, 0, p, o, o', e, nd, q, hq => by
    have e1 : (a, u) = (p, o) := Option.some.inj e
    injection e1 with e1 e2
    rw [List.set_cons_zero] at hq
    rcases List.mem_cons.mp hq with h | h
    · exact Or.inl h
    · refine Or.inr ⟨List.mem_cons_of_mem _ h, fun z => ?_⟩
      rw [List.map_cons] at nd
      refine (List.nodup_cons.mp nd).1 ?_
      show a ∈ _
      rw [e1, ← z]
      exact List.mem_map_of_mem h
  | (a, u) :: L, i + 1, p, o, o', e, nd, q, hq => by
    rw [List.set_cons_succ] at hq
    rw [List.map_cons] at nd
    rw [List.getElem?_cons_succ] at e
    rcases List.mem_cons.mp hq with h | h
    · subst h
      refine Or.inr ⟨List.mem_cons_self, fun z => ?_⟩
      refine (List.nodup_cons.mp nd).1 ?_
      show a ∈ _
      have z' : a = p := z
      rw [z']
      exact List.mem_map.mpr ⟨(p, o), List.mem_of_getElem? e, rfl⟩
    · rcases mem_set_ne e (List.nodup_cons.mp nd).2 q h with h | ⟨h1, h2⟩
      · exact Or.inl h
      · exact Or.inr ⟨List.mem_cons_of_mem _ h1, h2⟩
theorem map_set_fst : ∀ {L : List (Addr × HO)} {i : Nat} {p : Addr} {o o' : HO}, L[i]? = some (p, o) → (L.set i (p, o')).map (·.1) = L.map (·.1)
  | [], i, p, o, o', e => by simp at e
  | (a, u) :: L, 0, p, o, o', e => by
    have e1 : (a, u) = (p, o) := Option.some.inj e
    injection e1 with e1 e2
    rw [List.set_cons_zero, List.map_cons, List.map_cons, e1]
  | (a, u) :: L, i + 1, p, o, o', e => by
    rw [List.getElem?_cons_succ] at e
    rw [List.set_cons_succ, List.map_cons, List.map_cons, map_set_fst e]
/-- the i-th of the tracked objects is changed -/
theorem Trk.mut (T : Trk H0 H L) (i : Nat) (e : L[i]? = some (p, o)) : Trk H0 (upd H p o') (L.set i (p, o')) := by
  have hn : H0 p = none := T.new _ (List.mem_of_getElem? e)
  refine ⟨fun b x q => ?_, fun q hq => ?_, ?_, fun q hq => ?_⟩
  · rw [upd_ne (ne_of_none q hn)]
    exact T.same b x q
  · rcases mem_set_ne e T.nd q hq with h | ⟨h1, _⟩
    · rw [h]
      exact hn
    · exact T.new q h1
  · rw [map_set_fst e]
    exact T.nd
  · rcases mem_set_ne e T.nd q hq with h | ⟨h1, h2⟩
    · rw [h]
      exact upd_same
    · rw [upd_ne h2]
      exact T.at_ q h1
/-- forgetting -/
theorem Trk.drop (T : Trk H0 H L) (k : Nat) : Trk H0 H (L.drop k) := ⟨T.same, fun p hp => T.new p (List.mem_of_mem_drop hp), by
  rw [List.map_drop]
  exact List.Nodup.sublist (List.drop_sublist _ _) T.nd, fun p hp => T.at_ p (List.mem_of_mem_drop hp)⟩
theorem Trk.fresh (T : Trk H0 H L) {i : Nat} (e : L[i]? = some (p, o)) : H0 p = none := T.new _ (List.mem_of_getElem? e)
end

/-! ### promises -/
def RetL (xs : List V) (H : Hp) (Q : VK) : Prop := ∀ p H', H p = none → Same H H' → H' p = some (.lst xs) → Q (.ref p) H'
def RetV (v : V) (H : Hp) (Q : VK) : Prop := ∀ H', Same H H' → Q v H'
/-- a pair of a new list and a value; a pair of two new lists -/
def RetP (xs : List V) (v : V) (H : Hp) (Q : VK) : Prop := ∀ t p H', H t = none → H p = none → t ≠ p → Same H H' → H' p = some (.lst xs) → H' t = some (.tup [.ref p, v]) → Q (.ref t) H'
def RetPP (xs ys : List V) (H : Hp) (Q : VK) : Prop := ∀ t p q H', H t = none → H p = none → H q = none → t ≠ p → t ≠ q → p ≠ q → Same H H' → H' p = some (.lst xs) → H' q = some (.lst ys) → H' t = some (.tup [.ref p, .ref q]) → Q (.ref t) H'
section
variable {H0 H H' : Hp} {L : List (Addr × HO)} {p : Addr} {o : HO} {xs : List V} {v : V} {Q : VK}
theorem RetL.go (k : RetL xs H0 Q) (T : Trk H0 H L) (i : Nat) (e : L[i]? = some (p, .lst xs)) : Q (.ref p) H := k p H (T.fresh e) T.same (T.get e)
theorem RetV.go (k : RetV v H0 Q) (T : Trk H0 H L) : Q v H := k H T.same
end

/-! ### a def that is called by its name -/
def Cal (P : Program) (w : World) (K : PySem.W.Frag) (mg : Str → Option Value) (base : Heap) (CX : CXT) (x : Str) (k : Nat) (ps : List Str) (sp : Sp) : Prop :=
  ∃ f fd, FnOk P w K mg base CX k f fd ps sp ∧ mg x = some (.ref f) ∧ PySem.W.keepIn K (.ref f) = true ∧ Binds K fd ps []
section
variable {X : Cx} {CX : CXT} {x : Str} {j k : Nat} {ps : List Str} {sp : Sp} {E : XK} {p pos : Pos} {e : Expr} {es : List Expr} {t : TA}
theorem pcX (C : Cal X.prog X.w X.K X.mg X.base CX x j ps sp) (hr : Room k X.A) (hx : Passes CX X E) (ha : PA X (e :: es) t) (hk : j ≤ k := by omega) (hg : Gl X x := by rfl) (hdb : (x == ("__debug__" : Str)) = false := by decide)
    (he : starEach (e :: es) X.env = (false, eval e X.env) :: starEach es X.env := by rfl) (hpl : (backTo pos (starEach es X.env)).any (·.1) = false := by rfl) : PE X (.Call (.Name x p) (e :: es) [] pos) (tCall sp [] E t) := by
  obtain ⟨f, fd, F, hm, kp, b⟩ := C
  exact pe_call F (hr.mono hk) hg hm kp b .nil hx ha hdb he hpl
theorem pc (C : Cal X.prog X.w X.K X.mg X.base CX0 x j ps sp) (hr : Room k X.A) (ha : PA X (e :: es) t) (hk : j ≤ k := by omega) (hg : Gl X x := by rfl) (hdb : (x == ("__debug__" : Str)) = false := by decide)
    (he : starEach (e :: es) X.env = (false, eval e X.env) :: starEach es X.env := by rfl) (hpl : (backTo pos (starEach es X.env)).any (·.1) = false := by rfl) : PE X (.Call (.Name x p) (e :: es) [] pos) (tCall sp [] E0 t) := pcX C hr pass0 ha hk hg hdb he hpl
end

/-! ### steps of a reading -/
section
variable {K : PySem.W.Frag} {X : Cx} {σ : L2.St} {H : Hp} {D : Ends} {t u : TS} {ta tb te tc : TE} {tt tw : TT} {r : R2} {Q : VK} {v x y : V} {p q : Addr} {xs ys : List V}
theorem x_seq (h : t { D with nx := u D } σ H) : tSeq t u D σ H := h
theorem x_asg {g : TG} (h : te σ H fun x H1 => g x σ H1 D.nx) : tAsg te g D σ H := h
theorem x_name {i : Nat} {R : L2.St → Hp → Prop} (h : R (σ.set i (some v)) H) : gName i v σ H R := h
theorem x_ret (h : te σ H D.rt) : tRet te D σ H := h
theorem x_drop (h : te σ H fun _ H1 => D.nx σ H1) : tDrop te D σ H := h
theorem x_next (h : D.nx σ H) : tNext D σ H := h
theorem x_if (h : tt σ H fun b H1 => if b = true then t D σ H1 else u D σ H1) : tIfS tt t u D σ H := h
theorem x_var {i : Nat} (e : σ[i]? = some (some v)) (h : Q v H) : tVar i σ H Q := ⟨v, e, h⟩
theorem x_c (h : Q v H) : tC v σ H Q := h
theorem x_op (h : ta σ H fun x H1 => tb σ H1 fun y H2 => r x y H2 Q) : tOp r ta tb σ H Q := h
theorem x_un {r : V → Hp → VK → Prop} (h : ta σ H fun x H1 => r x H1 Q) : tUn r ta σ H Q := h
theorem x_I0 {g : Int → Int → V} {i j : Int} (h : Q (g i j) H) : rI0 g (.int i) (.int j) H Q := ⟨i, j, rfl, rfl, h⟩
theorem x_I {C : Int → Int → Prop} {g : Int → Int → V} {i j : Int} (c : C i j) (h : Q (g i j) H) : rI C g (.int i) (.int j) H Q := ⟨i, j, rfl, rfl, c, h⟩
theorem x_U {g : Int → V} {i : Int} (h : Q (g i) H) : rU g (.int i) H Q := ⟨i, rfl, h⟩
theorem x_eqI {i j : Int} (h : Q (.bl (decide (i = j))) H) : rEq (.int i) (.int j) H Q := ⟨rfl, by
  have e : decide (V.int i = V.int j) = decide (i = j) := by rw [dec_int, Bool.beq_eq_decide_eq]
  rw [e]; exact h⟩
theorem x_neI {i j : Int} (h : Q (.bl (!decide (i = j))) H) : rNe (.int i) (.int j) H Q := ⟨rfl, by
  have e : decide (V.int i = V.int j) = decide (i = j) := by rw [dec_int, Bool.beq_eq_decide_eq]
  rw [e]; exact h⟩
theorem x_nil {R : List V → Hp → Prop} (h : R [] H) : tNil σ H R := h
theorem x_cons {tr : TA} {R : List V → Hp → Prop} (h : ta σ H fun x H1 => tr σ H1 fun xs H2 => R (x :: xs) H2) : tCons ta tr σ H R := h
theorem x_call {sp : Sp} {E : XK} {tr : TA} (h : tr σ H fun vs H1 => sp (vs ++ []) H1 Q E) : tCall sp [] E tr σ H Q := h
theorem x_cb {r : List V → Hp → VK → Prop} {tr : TA} (h : tr σ H fun vs H1 => r vs H1 Q) : tCB r tr σ H Q := h
theorem x_test {R : Bool → Hp → Prop} (h : te σ H fun x H1 => ∃ k, x = .bl k ∧ R k H1) : tTest te σ H R := h
theorem x_B {R : Bool → Hp → Prop} (h : te σ H fun x H1 => ∃ k, x = .bl k ∧ R k H1) : tB te σ H R := h
theorem x_bl {b : Bool} {R : Bool → Prop} (h : R b) : ∃ k, V.bl b = .bl k ∧ R k := ⟨b, rfl, h⟩
theorem x_not {R : Bool → Hp → Prop} (h : tt σ H fun c H1 => R (!c) H1) : tNot tt σ H R := h
theorem x_and {R : Bool → Hp → Prop} (h : tt σ H fun c H1 => if c = true then tw σ H1 R else R false H1) : tAnd tt tw σ H R := h
theorem x_or {R : Bool → Hp → Prop} (h : tt σ H fun c H1 => if c = true then R true H1 else tw σ H1 R) : tOr tt tw σ H R := h
theorem x_andV (h : ta σ H fun x H1 => ∃ c, x = .bl c ∧ if c = true then tb σ H1 Q else Q (.bl false) H1) : tAndV ta tb σ H Q := h
theorem x_orV (h : ta σ H fun x H1 => ∃ c, x = .bl c ∧ if c = true then Q (.bl true) H1 else tb σ H1 Q) : tOrV ta tb σ H Q := h
theorem x_notV (h : ta σ H fun x H1 => ∃ c, x = .bl c ∧ Q (.bl (!c)) H1) : tNotV ta σ H Q := h
theorem x_ifE (h : tt σ H fun c H1 => if c = true then ta σ H1 Q else tb σ H1 Q) : tIf tt ta tb σ H Q := h
theorem x_chain {r' : R2} (h : ta σ H fun x H1 => tb σ H1 fun y H2 => r x y H2 fun z H3 => ∃ k, z = .bl k ∧ (if k = true then tc σ H3 fun w' H4 => r' y w' H4 Q else Q (.bl false) H3)) : tChain r r' ta tb tc σ H Q := h
theorem x_aug {i : Nat} {ti : TIp} (e : σ[i]? = some (some v)) (h : te σ H fun y H1 => ti v y H1 fun z H2 => D.nx (σ.set i (some z)) H2) : tAug i te ti D σ H := ⟨v, e, h⟩
/-- len, max, min -/
def rLen1 (K : PySem.W.Frag) : List V → Hp → VK → Prop := fun xs H Q => ∃ p ys, xs = [.ref p] ∧ (SqL K H p ys ∨ SqT K H p ys) ∧ Q (.int ys.length) H
theorem call_len1 : CallR X (.builtin "len") (rLen1 X.K) := call_len_seq
theorem x_len (h : H p = some (.lst xs)) (q : Q (.int xs.length) H) : rLen1 K [.ref p] H Q := ⟨p, xs, rfl, .inl (SqL.of h), q⟩
theorem x_lenS (h : SqL K H p xs) (q : Q (.int xs.length) H) : rLen1 K [.ref p] H Q := ⟨p, xs, rfl, .inl h, q⟩
theorem x_lenT (h : H p = some (.tup xs)) (q : Q (.int xs.length) H) : rLen1 K [.ref p] H Q := ⟨p, xs, rfl, .inr (SqT.of h), q⟩
def rMax2 : List V → Hp → VK → Prop := fun xs H Q => ∃ i j, xs = [.int i, .int j] ∧ Q (.int (if j > i then j else i)) H
def rMin2 : List V → Hp → VK → Prop := fun xs H Q => ∃ i j, xs = [.int i, .int j] ∧ Q (.int (if j < i then j else i)) H
theorem call_max2' (hc : X.calm = true) : CallR X (.builtin "max") rMax2 := call_max2 hc
theorem call_min2' (hc : X.calm = true) : CallR X (.builtin "min") rMin2 := call_min2 hc
theorem x_max {i j : Int} (q : Q (.int (max i j)) H) : rMax2 [.int i, .int j] H Q := ⟨i, j, rfl, by
  have e : (if j > i then j else i) = max i j := by split <;> omega
  rw [e]; exact q⟩
theorem x_min {i j : Int} (q : Q (.int (min i j)) H) : rMin2 [.int i, .int j] H Q := ⟨i, j, rfl, by
  have e : (if j < i then j else i) = min i j := by split <;> omega
  rw [e]; exact q⟩
/-- items, slices -/
theorem x_ix {i : Int} (h : H p = some (.lst xs)) (e : atI xs i = some v) (q : Q v H) : rIxL K (.ref p) (.int i) H Q := ⟨p, xs, i, v, rfl, rfl, SqL.of h, e, q⟩
theorem x_ixS {i : Int} (h : SqL K H p xs) (e : atI xs i = some v) (q : Q v H) : rIxL K (.ref p) (.int i) H Q := ⟨p, xs, i, v, rfl, rfl, h, e, q⟩
theorem x_ixT {i : Int} (h : H p = some (.tup xs)) (e : atI xs i = some v) (q : Q v H) : rIxT K (.ref p) (.int i) H Q := ⟨p, xs, i, v, rfl, rfl, SqT.of h, e, q⟩
theorem x_sl {r : V → Option Int → Option Int → Hp → VK → Prop} {tl th : TO} (h : te σ H fun x H1 => tl σ H1 fun l H2 => th σ H2 fun u H3 => r x l u H3 Q) : tSl r te tl th σ H Q := h
theorem x_po0 {R : Option Int → Hp → Prop} (h : R none H) : tNoPart σ H R := h
theorem x_po1 {R : Option Int → Hp → Prop} (h : te σ H fun x H1 => ∃ i, x = .int i ∧ R (some i) H1) : tPart te σ H R := h
theorem x_part {i : Int} {R : Int → Prop} (h : R i) : ∃ j, V.int i = .int j ∧ R j := ⟨i, rfl, h⟩
theorem x_cut {lo hi : Option Int} (h : H p = some (.lst xs)) (q : ∀ d, H d = none → Q (.ref d) (upd H d (.lst (cutV xs lo hi)))) : rSlL K (.ref p) lo hi H Q := ⟨p, xs, rfl, SqL.of h, q⟩
theorem x_revL (h : te σ H fun x H1 => ∃ a xs, x = .ref a ∧ SqL K H1 a xs ∧ ∀ d, H1 d = none → Q (.ref d) (upd H1 d (.lst xs.reverse))) : tRevL K te σ H Q := h
theorem x_rev {R : Addr → List V → Prop} (h : H p = some (.lst xs)) (q : R p xs) : ∃ a ys, V.ref p = .ref a ∧ SqL K H a ys ∧ R a ys := ⟨p, xs, rfl, SqL.of h, q⟩
/-- lists made -/
abbrev rNewL (xs : List V) (H : Hp) (Q : VK) : Prop := xs.length ≤ sizeLine ∧ ∀ d, H d = none → Q (.ref d) (upd H d (.lst xs))
abbrev rNewT (xs : List V) (H : Hp) (Q : VK) : Prop := xs.length ≤ sizeLine ∧ ∀ d, H d = none → Q (.ref d) (upd H d (.tup xs))
theorem x_lst {tr : TA} (h : tr σ H fun xs H1 => rNewL xs H1 Q) : tLst tr σ H Q := h
theorem x_tup {tr : TA} (h : tr σ H fun xs H1 => rNewT xs H1 Q) : tTup tr σ H Q := h
theorem x_cat (h1 : H p = some (.lst xs)) (h2 : H q = some (.lst ys)) (hz : xs.length + ys.length ≤ 100000) (k : ∀ d, H d = none → Q (.ref d) (upd H d (.lst (xs ++ ys)))) : rCat (.ref p) (.ref q) H Q :=
  ⟨p, q, xs, ys, rfl, rfl, h1, h2, Nat.le_trans hz (by decide), k⟩
def rList1 (K : PySem.W.Frag) : List V → Hp → VK → Prop := fun xs H Q => ∃ p ys, xs = [.ref p] ∧ (SqL K H p ys ∨ SqT K H p ys) ∧ ∀ l, H l = none → Q (.ref l) (upd H l (.lst ys))
theorem call_list1 : CallR X (.type "list") (rList1 X.K) := call_list_of
theorem x_list (h : H p = some (.lst xs)) (k : ∀ d, H d = none → Q (.ref d) (upd H d (.lst xs))) : rList1 K [.ref p] H Q := ⟨p, xs, rfl, .inl (SqL.of h), k⟩
theorem x_bm {T : String} {r : V → List V → Hp → VK → Prop} {tr : TA} (h : te σ H fun x H1 => tyV K T x H1 ∧ tr σ H1 fun xs H2 => r x xs H2 Q) : tBM K T r te tr σ H Q := h
theorem x_tyL {A : Prop} (h : H p = some (.lst xs)) (k : A) : tyV K "list" (.ref p) H ∧ A := ⟨.inl ⟨rfl, xs, SqL.of h⟩, k⟩
theorem x_app (h : H p = some (.lst xs)) (hz : xs.length < 100000) (k : Q .non (upd H p (.lst (xs ++ [v])))) : rAppend (.ref p) [v] H Q := ⟨p, xs, v, rfl, rfl, h, Nat.lt_of_lt_of_le hz (by decide), k⟩
theorem ifT {A B : Prop} {c : Bool} (hc : c = true) (h : A) : if c = true then A else B := by
  rw [hc]; exact iteT h
theorem ifF {A B : Prop} {c : Bool} (hc : c = false) (h : B) : if c = true then A else B := by
  rw [hc]; exact iteF h
theorem if2 {A B : Prop} {c : Bool} (h1 : c = true → A) (h2 : c = false → B) : if c = true then A else B := by
  cases c with
  | true => exact iteT (h1 rfl)
  | false => exact iteF (h2 rfl)
end
theorem ifnT {A B : Prop} (h : B) : if (!true) = true then A else B := iteF h
theorem ifnF {A B : Prop} (h : A) : if (!false) = true then A else B := iteT h
/-! ### rows as values -/
def iv (l : List Nat) : List V := l.map fun (n : Nat) => V.int (n : Int)
theorem iv_length (l : List Nat) : (iv l).length = l.length := List.length_map _
theorem iv_get {l : List Nat} {i x : Nat} (h : l[i]? = some x) : (iv l)[i]? = some (.int (x : Int)) := by
  unfold iv
  rw [List.getElem?_map, h]
  rfl
theorem iv_snoc (l : List Nat) (x : Nat) : iv (l ++ [x]) = iv l ++ [.int (x : Int)] := by
  unfold iv
  rw [List.map_append]
  rfl
theorem iv_append (l m : List Nat) : iv (l ++ m) = iv l ++ iv m := by
  unfold iv
  rw [List.map_append]
theorem iv_inj {l m : List Nat} (h : iv l = iv m) : l = m := by
  unfold iv at h
  refine List.map_inj_right (fun a b e => ?_) |>.mp h
  injection e with e
  omega
theorem iv_nil_iff {l : List Nat} : iv l = [] ↔ l = [] := by
  unfold iv
  exact List.map_eq_nil_iff
def dig (b n : Nat) : List V := iv (digits b n)
theorem nat_mod_cast (x b : Nat) : ((x : Int) % (b : Int)) = ((x % b : Nat) : Int) := (Int.natCast_emod x b).symm
theorem nat_div_cast (x b : Nat) : ((x : Int) / (b : Int)) = ((x / b : Nat) : Int) := (Int.natCast_ediv x b).symm
theorem cut_to (xs : List V) (k : Nat) : cutV xs none (some (k : Int)) = xs.take k := by
  unfold cutV
  rw [HT.sIx_none, HT.sIx_nat, Nat.sub_zero, List.drop_zero]
  rcases Nat.le_total k xs.length with h | h
  · rw [Nat.min_eq_left h]
  · rw [Nat.min_eq_right h, List.take_of_length_le (Nat.le_refl _), List.take_of_length_le h]
theorem cut_from (xs : List V) (k : Nat) : cutV xs (some (k : Int)) none = xs.drop k := by
  unfold cutV
  rw [HT.sIx_none, HT.sIx_nat]
  rcases Nat.le_total k xs.length with h | h
  · rw [Nat.min_eq_left h, List.take_of_length_le (by rw [List.length_drop]; omega)]
  · rw [Nat.min_eq_right h, List.drop_eq_nil_of_le (Nat.le_refl _), List.drop_eq_nil_of_le h, List.take_nil]
theorem iv_take (l : List Nat) (k : Nat) : iv (l.take k) = (iv l).take k := List.map_take
theorem iv_drop (l : List Nat) (k : Nat) : iv (l.drop k) = (iv l).drop k := List.map_drop
theorem iv_reverse (l : List Nat) : iv l.reverse = (iv l).reverse := List.map_reverse
theorem trim_take_of {l : List Nat} {k : Nat} (hk : k < l.length) (h0 : l[k]? = some 0) (e : trim (l.take (k + 1)) = trim l) : trim (l.take k) = trim l := by
  rw [List.take_succ_eq_append_getElem hk] at e
  rw [List.getElem?_eq_getElem hk] at h0
  rw [Option.some.inj h0, trim_snoc_zero] at e
  exact e
theorem trim_take_end {l : List Nat} {k x : Nat} (hk : k < l.length) (h0 : l[k]? = some x) (hx : x ≠ 0) (e : trim (l.take (k + 1)) = trim l) : l.take (k + 1) = trim l := by
  rw [← e, List.take_succ_eq_append_getElem hk]
  rw [List.getElem?_eq_getElem hk] at h0
  rw [Option.some.inj h0, trim_snoc_pos hx]
theorem iv_at {l : List Nat} {i : Nat} {v : V} (h : (iv l)[i]? = some v) : ∃ x, l[i]? = some x ∧ v = .int (x : Int) := by
  unfold iv at h
  rw [List.getElem?_map] at h
  cases e : l[i]? with
  | none =>
    rw [e] at h
    cases h
  | some x =>
    rw [e] at h
    exact ⟨x, rfl, (Option.some.inj h).symm⟩
/-! ### a def of the text -/
def Dfn (K : PySem.W.Frag) (mg : Str → Option Value) (x : Str) (st : Stmt) : Prop := ∃ f fd, FunD K x x (defArgs st) (defBody st) (defScope st) [] [] f fd ∧ mg x = some (.ref f)
section
variable {P : Program} {w : World} {K : PySem.W.Frag} {mg : Str → Option Value} {base : Heap} {x : Str} {st : Stmt} {N ps : List Str} {k : Nat} {sp : Sp}
/-- THE RULE for a def that raises nothing -/
theorem cal0 (D : Dfn K mg x st) (S : FnScope N ps (defScope st))
    (hb : ∀ (kV doc pm : Value) (an : Option Addr) (cdv ct : Value) (us : List Value), us.length = ps.length → bindArgs (PySem.W.fnOf x x (defArgs st) (defBody st) (defScope st) .none kV doc pm an cdv ct) ⟨us, []⟩ = pure (ps.zip us))
    (len : ∀ vs H Q E, sp vs H Q E → vs.length = ps.length)
    (hbody : ∀ (f : Addr) (cdv : Value) (A : Around) (outer : List Env) (s : Shared) (H : Hp) (vs : List V) (Q : VK) (E : XK), Room k (A.deeper (envOfC x (defScope st) s.heap.objs.size f cdv)) → sp vs H Q E →
      ∃ t, PSs (cxOf CX0 P w K mg base N x (defScope st) f cdv A outer s H E).nox (defBody st) t ∧ t { nx := fun _ H' => Q .non H', rt := Q } (start N vs) H) : Cal P w K mg base CX0 x (k + 1) ps sp := by
  obtain ⟨f, fd, F, hm⟩ := D
  refine ⟨f, fd, F.ok S len fun cdv A outer s H vs Q E hr h => ?_, hm, F.kp, F.bindsN hb⟩
  obtain ⟨t, h1, h2⟩ := hbody f cdv A outer s H vs Q E hr h
  exact ⟨t, h1.nox, h2⟩
/-- .. that may raise -/
theorem calX (D : Dfn K mg x st) (S : FnScope N ps (defScope st))
    (hb : ∀ (kV doc pm : Value) (an : Option Addr) (cdv ct : Value) (us : List Value), us.length = ps.length → bindArgs (PySem.W.fnOf x x (defArgs st) (defBody st) (defScope st) .none kV doc pm an cdv ct) ⟨us, []⟩ = pure (ps.zip us))
    (len : ∀ vs H Q E, sp vs H Q E → vs.length = ps.length)
    (hbody : ∀ (f : Addr) (cdv : Value) (A : Around) (outer : List Env) (s : Shared) (H : Hp) (vs : List V) (Q : VK) (E : XK), Room k (A.deeper (envOfC x (defScope st) s.heap.objs.size f cdv)) → sp vs H Q E →
      ∃ t, PSs (cxOf (L2.CX P w) P w K mg base N x (defScope st) f cdv A outer s H E) (defBody st) t ∧ t { nx := fun _ H' => Q .non H', rt := Q } (start N vs) H) : Cal P w K mg base (L2.CX P w) x (k + 1) ps sp := by
  obtain ⟨f, fd, F, hm⟩ := D
  exact ⟨f, fd, F.ok S len fun cdv A outer s H vs Q E hr h => hbody f cdv A outer s H vs Q E hr h, hm, F.kp, F.bindsN hb⟩
end
/-! ### loops -/
section
variable {K : PySem.W.Frag} {σ : L2.St} {H : Hp} {D : Ends} {t : TS} {tt : TT} {p : Addr} {xs : List V}
theorem x_for {wi : TI} {g : TG} {tb : TS} (h : wi σ H fun J H1 => ∃ W : Nat → Nat → L2.St → Hp → Prop, (∃ m, W 0 m σ H1) ∧ ∀ i m σ H, W i m σ H →
  (J.stop i H ∧ D.nx σ H) ∨ (J.go i H ∧ ∃ N : L2.St → Hp → Prop, (∀ σ' H', N σ' H' → ∃ m', m' < m ∧ W (i + 1) m' σ' H') ∧ ∀ x H', J.yld i H x H' → g x σ H' fun σ2 H2 => tb { D with nx := N, ct := N, bk := D.nx } σ2 H2)) : tFor wi g tb D σ H := h
theorem x_iList {tl : TE} {R : It → Hp → Prop} (h : tl σ H fun x H1 => ∃ a, x = .ref a ∧ (∃ xs, SqL K H1 a xs) ∧ R (Itl K a) H1) : iList K tl σ H R := h
theorem x_il {R : Addr → Prop} (h : H p = some (.lst xs)) (k : R p) : ∃ a, V.ref p = .ref a ∧ (∃ xs, SqL K H a xs) ∧ R a := ⟨p, rfl, ⟨xs, SqL.of h⟩, k⟩
theorem x_iRev {ta : TA} {R : It → Hp → Prop} (h : ta σ H fun vs H1 => ∃ (a : Addr) (xs : List V), vs = [.ref a] ∧ SqL K H1 a xs ∧ R (Itv K a xs.length) H1) : iRev K ta σ H R := h
theorem x_rv {R : Addr → List V → Prop} (h : H p = some (.lst xs)) (k : R p xs) : ∃ (a : Addr) (ys : List V), [V.ref p] = [.ref a] ∧ SqL K H a ys ∧ R a ys := ⟨p, xs, rfl, SqL.of h, k⟩
theorem x_iR1 {ta : TA} {R : It → Hp → Prop} (h : ta σ H fun vs H1 => ∃ j : Int, vs = [.int j] ∧ -(2 ^ 62) ≤ j ∧ j < 2 ^ 62 ∧ R (Itr 0 j.toNat) H1) : iRng1 ta σ H R := h
theorem x_r1 {j : Int} {R : Int → Prop} (h : -100000000 ≤ j ∧ j ≤ 100000000) (k : R j) : ∃ i : Int, [V.int j] = [.int i] ∧ -(2 ^ 62) ≤ i ∧ i < 2 ^ 62 ∧ R i := ⟨j, rfl, by omega, by omega, k⟩
theorem x_iR3 {ta : TA} {R : It → Hp → Prop} (h : ta σ H fun vs H1 => ∃ (i j c : Int) (n : Nat), vs = [.int i, .int j, .int c] ∧ RgC i j c n ∧ R (Itc i c n) H1) : iRng3 ta σ H R := h
theorem x_rdown {i : Int} {R : Int → Int → Nat → Prop} (h : -1 ≤ i ∧ i ≤ 100000000) (k : R i (-1) (i + 1).toNat) : ∃ (a j c : Int) (n : Nat), [V.int i, V.int (-1), V.int (-1)] = [.int a, .int j, .int c] ∧ RgC a j c n ∧ R a c n :=
  ⟨i, -1, -1, _, rfl, RgC.neg (by omega) (by omega) (by decide) (by decide), by
    have e : i - -1 = i + 1 := by omega
    rw [e]; exact k⟩
theorem x_while (W : Nat → L2.St → Hp → Prop) (m : Nat) (h0 : W m σ H) (hs : ∀ m σ H, W m σ H →
  tt σ H fun b H1 => if b = true then ∃ N : L2.St → Hp → Prop, (∀ σ' H', N σ' H' → ∃ m', m' < m ∧ W m' σ' H') ∧ t { D with nx := N, ct := N, bk := D.nx } σ H1 else D.nx σ H1) : tWhile tt t D σ H := ⟨W, ⟨m, h0⟩, hs⟩
theorem x_turn {W : Nat → L2.St → Hp → Prop} {m : Nat} (h : t { D with nx := fun σ2 H2 => ∃ m', m' < m ∧ W m' σ2 H2, ct := fun σ2 H2 => ∃ m', m' < m ∧ W m' σ2 H2, bk := D.nx } σ H) :
  ∃ N : L2.St → Hp → Prop, (∀ σ' H', N σ' H' → ∃ m', m' < m ∧ W m' σ' H') ∧ t { D with nx := N, ct := N, bk := D.nx } σ H := ⟨_, fun _ _ h => h, h⟩
theorem x_iEn {ta : TA} {R : It → Hp → Prop} (h : ta σ H fun vs H1 => ∃ a xs, vs = [.ref a] ∧ SqL K H1 a xs ∧ R (Ite K a) H1) : iEnum K ta σ H R := h
theorem x_en {R : Addr → Prop} (h : H p = some (.lst xs)) (k : R p) : ∃ a ys, [V.ref p] = [.ref a] ∧ SqL K H a ys ∧ R a := ⟨p, xs, rfl, SqL.of h, k⟩
end
/-! ### kinds of values: the whole numbers among all -/
inductive Kd (H : Hp) : V → Option Int → Prop where
  | int (i : Int) : Kd H (.int i) (some i)
  | bl (b : Bool) : Kd H (.bl b) none
  | str (x : Str) : Kd H (.str x) none
  | non : Kd H .non none
  | lst {a : Addr} {xs : List V} (e : H a = some (.lst xs)) : Kd H (.ref a) none
  | tup {a : Addr} {xs : List V} (e : H a = some (.tup xs)) : Kd H (.ref a) none
  | dK {a : Addr} {kvs : List (Key × V)} (e : H a = some (.dK kvs)) : Kd H (.ref a) none
theorem Kd.mono {H H' : Hp} {x : V} {o : Option Int} (k : Kd H x o) (s : Same H H') : Kd H' x o := by
  cases k with
  | int i => exact .int i
  | bl b => exact .bl b
  | str x => exact .str x
  | non => exact .non
  | lst e => exact .lst (s _ _ e)
  | tup e => exact .tup (s _ _ e)
  | dK e => exact .dK (s _ _ e)
/-- its type, and what isinstance says of int and of bool -/
theorem Kd.ty {K : PySem.W.Frag} {H : Hp} {x : V} {o : Option Int} (k : Kd H x o) : ∃ t, TyX K H x (.type t) ∧ ((o.isSome = true ∧ kitB t "int" = some true ∧ kitB t "bool" = some false) ∨ (o.isSome = false ∧ kitB t "int" = some false) ∨ (o.isSome = false ∧ kitB t "int" = some true ∧ kitB t "bool" = some true)) := by
  cases k with
  | int i => exact ⟨"int", .base (.int i), .inl ⟨rfl, by decide +kernel, by decide +kernel⟩⟩
  | bl b => exact ⟨"bool", .base (.bl b), .inr (.inr ⟨rfl, by decide +kernel, by decide +kernel⟩)⟩
  | str x => exact ⟨"str", .base (.str x), .inr (.inl ⟨rfl, by decide +kernel⟩)⟩
  | non => exact ⟨"NoneType", .base .non, .inr (.inl ⟨rfl, by decide +kernel⟩)⟩
  | lst e => exact ⟨"list", .base (.lst e), .inr (.inl ⟨rfl, by decide +kernel⟩)⟩
  | tup e => exact ⟨"tuple", .base (.tup e), .inr (.inl ⟨rfl, by decide +kernel⟩)⟩
  | dK e => exact ⟨"dict", .base (.dK e), .inr (.inl ⟨rfl, by decide +kernel⟩)⟩
/-- no list -/
inductive NoL (H : Hp) : V → Prop where
  | int (i : Int) : NoL H (.int i)
  | bl (b : Bool) : NoL H (.bl b)
  | str (x : Str) : NoL H (.str x)
  | non : NoL H .non
  | tup {a : Addr} {xs : List V} (e : H a = some (.tup xs)) : NoL H (.ref a)
  | dK {a : Addr} {kvs : List (Key × V)} (e : H a = some (.dK kvs)) : NoL H (.ref a)
theorem NoL.mono {H H' : Hp} {x : V} (k : NoL H x) (s : Same H H') : NoL H' x := by
  cases k with
  | int i => exact .int i
  | bl b => exact .bl b
  | str x => exact .str x
  | non => exact .non
  | tup e => exact .tup (s _ _ e)
  | dK e => exact .dK (s _ _ e)
theorem NoL.ty {K : PySem.W.Frag} {H : Hp} {x : V} (k : NoL H x) : ∃ t, TyX K H x (.type t) ∧ kitB t "list" = some false := by
  cases k with
  | int i => exact ⟨"int", .base (.int i), by decide +kernel⟩
  | bl b => exact ⟨"bool", .base (.bl b), by decide +kernel⟩
  | str x => exact ⟨"str", .base (.str x), by decide +kernel⟩
  | non => exact ⟨"NoneType", .base .non, by decide +kernel⟩
  | tup e => exact ⟨"tuple", .base (.tup e), by decide +kernel⟩
  | dK e => exact ⟨"dict", .base (.dK e), by decide +kernel⟩
theorem x_isi {K : PySem.W.Frag} {H : Hp} {Q : VK} {x : V} {t n : String} {b : Bool} (ty : TyX K H x (.type t)) (kb : kitB t n = some b) (k : Q (.bl b) H) : rIsi K [x, .ty n] H Q := ⟨x, .ty n, _, _, b, rfl, .ty n, ty, kit_ty kb, k⟩
theorem x_isiL {K : PySem.W.Frag} {H : Hp} {Q : VK} {p : Addr} {xs : List V} (h : H p = some (.lst xs)) (k : Q (.bl true) H) : rIsi K [.ref p, .ty "list"] H Q := x_isi (.base (.lst h)) (by decide +kernel) k
theorem x_isiT {K : PySem.W.Frag} {H : Hp} {Q : VK} {p : Addr} {xs : List V} (h : H p = some (.tup xs)) (k : Q (.bl true) H) : rIsi K [.ref p, .ty "tuple"] H Q := x_isi (.base (.tup h)) (by decide +kernel) k
theorem x_isiI {K : PySem.W.Frag} {H : Hp} {Q : VK} {i : Int} (k : Q (.bl true) H) : rIsi K [.int i, .ty "int"] H Q := x_isi (.base (.int i)) (by decide +kernel) k

/-! ### == of lists of numbers -/
def pdI (l : List Nat) : PyData := .list (l.map fun (n : Nat) => PyData.int (n : Int))
section
variable {K : PySem.W.Frag} {H : Hp} {Q : VK} {p q : Addr} {l m : List Nat}
theorem dpAll_iv : ∀ l : List Nat, DpAll K H (iv l) (l.map fun (n : Nat) => PyData.int (n : Int))
  | [] => .nil
  | x :: l => .cons (.int _) (dpAll_iv l)
theorem dp_iv (h : H p = some (.lst (iv l))) : Dp K H (.ref p) (pdI l) := .lst (SqL.of h) (dpAll_iv l)
theorem canLay_ints : ∀ l : List Nat, PyData.canLayAll0 (l.map fun (n : Nat) => PyData.int (n : Int)) = true
  | [] => rfl
  | x :: l => by
    show (PyData.canLay0 (.int _) && PyData.canLayAll0 (l.map _)) = true
    rw [canLay_ints l]
    rfl
theorem depth_ints : ∀ l : List Nat, PyData.depthAll (l.map fun (n : Nat) => PyData.int (n : Int)) = 0
  | [] => rfl
  | x :: l => by
    show max (PyData.depth (.int _)) (PyData.depthAll (l.map _)) = 0
    rw [depth_ints l]
    rfl
theorem canLay_pdI (l : List Nat) : (pdI l).canLay0 = true := by
  show PyData.canLayAll0 _ = true
  exact canLay_ints l
theorem depth_pdI (l : List Nat) : (pdI l).depth = 1 := by
  show PyData.depthAll _ + 1 = 1
  rw [depth_ints]
theorem shaped_pdI (l : List Nat) : SeqAt.shaped (pdI l) = true := by
  unfold SeqAt.shaped
  rw [canLay_pdI, depth_pdI]
  rfl
theorem eqv_ints : ∀ l m : List Nat, PyData.eqvAll (l.map fun (n : Nat) => PyData.int (n : Int)) (m.map fun (n : Nat) => PyData.int (n : Int)) = decide (l = m)
  | [], [] => by
    rw [decide_eq_true rfl]
    rfl
  | [], y :: m => by
    rw [decide_eq_false (fun z => nomatch z)]
    rfl
  | x :: l, [] => by
    rw [decide_eq_false (fun z => nomatch z)]
    rfl
  | x :: l, y :: m => by
    show (PyData.eqv (.int _) (.int _) && PyData.eqvAll (l.map _) (m.map _)) = _
    rw [eqv_ints l m]
    show (((x : Int) == (y : Int)) && decide (l = m)) = _
    by_cases h : x = y
    · subst h
      rw [beq_self_eq_true, Bool.true_and]
      by_cases h2 : l = m
      · rw [decide_eq_true h2, decide_eq_true (by rw [h2])]
      · rw [decide_eq_false h2, decide_eq_false (fun z => h2 (List.cons.inj z).2)]
    · have e : ((x : Int) == (y : Int)) = false := beq_eq_false_iff_ne.mpr (fun z => h (by omega))
      rw [e, Bool.false_and, decide_eq_false (fun z => h (List.cons.inj z).1)]
theorem eqv_pdI (l m : List Nat) : PyData.eqv (pdI l) (pdI m) = decide (l = m) := by
  show PyData.eqvAll _ _ = _
  exact eqv_ints l m
theorem x_eqL (h1 : H p = some (.lst (iv l))) (h2 : H q = some (.lst (iv m))) (k : Q (.bl (decide (l = m))) H) : rEqD K (.ref p) (.ref q) H Q :=
  ⟨pdI l, pdI m, dp_iv h1, dp_iv h2, shaped_pdI l, shaped_pdI m, by rw [eqv_pdI]; exact k⟩
theorem x_neL (h1 : H p = some (.lst (iv l))) (h2 : H q = some (.lst (iv m))) (k : Q (.bl (!decide (l = m))) H) : rNeD K (.ref p) (.ref q) H Q :=
  ⟨pdI l, pdI m, dp_iv h1, dp_iv h2, shaped_pdI l, shaped_pdI m, by rw [eqv_pdI]; exact k⟩
end
/-! ### pairs, enumerate -/
section
variable {K : PySem.W.Frag} {σ : L2.St} {H : Hp} {D : Ends} {p : Addr} {v w : V}
theorem x_par {i j : Nat} {ta : TA} (h : ta σ H fun vs H1 => ∃ v w, vs = [v, w] ∧ D.nx ((σ.set i (some v)).set j (some w)) H1) : tPar i j ta D σ H := h
theorem x_pair {R : V → V → Prop} (h : R v w) : ∃ x y, [v, w] = [x, y] ∧ R x y := ⟨v, w, rfl, h⟩
theorem x_tup2 {i j n : Nat} {R : L2.St → Hp → Prop} (h : H p = some (.tup [v, w])) (hn : 2 = n) (k : R ((σ.set i (some v)).set j (some w)) H) : gTup K n (gCons (gName i) (gCons (gName j) gNil)) (.ref p) σ H R :=
  ⟨p, [v, w], rfl, SqT.of h, hn, v, [w], rfl, w, [], rfl, rfl, k⟩
theorem for_en {a : Addr} {xs : List V} {g : TG} {tb : TS} (Pv : Nat → L2.St → Hp → Prop) (h0 : Pv 0 σ H) (hq : ∀ i σ H, Pv i σ H → SqL K H a xs)
    (hs : ∀ (i : Nat) (x : V) (σ : L2.St) (H : Hp), xs[i]? = some x → Pv i σ H → ∀ t, H t = none → g (.ref t) σ (upd H t (.tup [.int (i : Int), x])) fun σ2 H2 => tb { D with nx := Pv (i + 1), ct := Pv (i + 1), bk := D.nx } σ2 H2) (hd : ∀ σ H, Pv xs.length σ H → D.nx σ H) :
    ∃ W : Nat → Nat → L2.St → Hp → Prop, (∃ m, W 0 m σ H) ∧ ∀ i m σ H, W i m σ H →
      ((Ite K a).stop i H ∧ D.nx σ H) ∨ ((Ite K a).go i H ∧ ∃ N : L2.St → Hp → Prop, (∀ σ' H', N σ' H' → ∃ m', m' < m ∧ W (i + 1) m' σ' H') ∧ ∀ x H', (Ite K a).yld i H x H' → g x σ H' fun σ2 H2 => tb { D with nx := N, ct := N, bk := D.nx } σ2 H2) := by
  refine ⟨fun i m σ H => m = xs.length - i ∧ i ≤ xs.length ∧ Pv i σ H, ⟨xs.length, rfl, Nat.zero_le _, h0⟩, ?_⟩
  rintro i m σ H ⟨rfl, hi, p⟩
  have q := hq i σ H p
  by_cases hlt : i < xs.length
  · refine .inr ⟨⟨xs, xs[i], q, List.getElem?_eq_getElem hlt⟩, Pv (i + 1), fun σ' H' p' => ⟨xs.length - (i + 1), by omega, rfl, hlt, p'⟩, fun x H' y => ?_⟩
    obtain ⟨T, u, rfl, hT, rfl, hy⟩ := y
    exact hs i u σ H (hy xs q) p T hT
  · have e : i = xs.length := by omega
    subst e
    exact .inl ⟨⟨xs, q, Nat.le_refl _⟩, hd σ H p⟩
theorem x_rep {Q : VK} {k : Nat} (h : H p = some (.lst [v])) (hk : k ≤ 100000) (q : ∀ d, H d = none → Q (.ref d) (upd H d (.lst (List.replicate k v)))) : rRep (.ref p) (.int (k : Int)) H Q := by
  refine ⟨p, k, [v], rfl, rfl, h, by omega, by omega, ?_, fun d hd => ?_⟩
  · show 1 * (k : Int).toNat ≤ sizeLine
    have : (100000 : Nat) ≤ sizeLine := by decide
    omega
  · have e : (List.replicate (k : Int).toNat [v]).flatten = List.replicate k v := by
      rw [Int.toNat_natCast]
      induction k with
      | zero => rfl
      | succ k ih =>
        rw [List.replicate_succ, List.flatten_cons, List.replicate_succ]
        show v :: (List.replicate k [v]).flatten = v :: List.replicate k v
        congr 1
        clear ih q hk
        induction k with
        | zero => rfl
        | succ k ih =>
          rw [List.replicate_succ, List.flatten_cons, List.replicate_succ, ← ih]
          rfl
    rw [e]
    exact q d hd
theorem sz {n : Nat} (h : n ≤ 100000) : n ≤ sizeLine := Nat.le_trans h (by decide)
theorem iv_replicate (k x : Nat) : List.replicate k (V.int (x : Int)) = iv (List.replicate k x) := by
  unfold iv
  rw [List.map_replicate]
end
/-! ### is True, is False, of anything -/
def rIsG : R2 := fun x y H Q => ∃ b : Bool, y = .bl b ∧ Q (.bl (decide (x = .bl b))) H
def rNotG : R2 := fun x y H Q => ∃ b : Bool, y = .bl b ∧ Q (.bl (!decide (x = .bl b))) H
theorem is_bool_gen {M : Model} {A : Around} {E : Value → Shared → Prop} {s : Shared} {Q : Value → Shared → Prop} {x : V} {v : Value} {d : Bool} (r : RelV x v) (h : Q (.bool (decide (x = .bl d))) s) : wpAny M A (compareOp .Is v (.bool d)) Q E s := by
  cases x with
  | non => cases (show v = Value.none from r); exact wpAny_pure (a := Value.bool (Value.none == Value.bool d)) h
  | bl b =>
    cases (show v = Value.bool b from r)
    refine is_bool ?_
    have e : decide (V.bl b = .bl d) = (b == d) := dec_bl
    rw [e] at h
    exact h
  | int i => obtain ⟨t, rfl⟩ := (show ∃ t, v = Value.int i t from r); exact wpAny_pure (a := Value.bool (Value.int i t == Value.bool d)) h
  | str i => obtain ⟨t, rfl⟩ := (show ∃ t, v = Value.str i t from r); exact wpAny_pure (a := Value.bool (Value.str i t == Value.bool d)) h
  | byt i => obtain ⟨t, rfl⟩ := (show ∃ t, v = Value.bytes i t from r); exact wpAny_pure (a := Value.bool (Value.bytes i t == Value.bool d)) h
  | flt i => obtain ⟨t, rfl⟩ := (show ∃ t, v = Value.float i t from r); exact wpAny_pure (a := Value.bool (Value.float i t == Value.bool d)) h
  | ref i => cases (show v = Value.ref i from r); exact wpAny_pure (a := Value.bool (Value.ref i == Value.bool d)) h
  | ty i => cases (show v = Value.type i from r); exact wpAny_pure (a := Value.bool (Value.type i == Value.bool d)) h
theorem isnot_bool_gen {M : Model} {A : Around} {E : Value → Shared → Prop} {s : Shared} {Q : Value → Shared → Prop} {x : V} {v : Value} {d : Bool} (r : RelV x v) (h : Q (.bool (!decide (x = .bl d))) s) : wpAny M A (compareOp .IsNot v (.bool d)) Q E s := by
  cases x with
  | non => cases (show v = Value.none from r); exact wpAny_pure (a := Value.bool (!(Value.none == Value.bool d))) h
  | bl b =>
    cases (show v = Value.bool b from r)
    refine isnot_bool ?_
    have e : decide (V.bl b = .bl d) = (b == d) := dec_bl
    rw [e] at h
    exact h
  | int i => obtain ⟨t, rfl⟩ := (show ∃ t, v = Value.int i t from r); exact wpAny_pure (a := Value.bool (!(Value.int i t == Value.bool d))) h
  | str i => obtain ⟨t, rfl⟩ := (show ∃ t, v = Value.str i t from r); exact wpAny_pure (a := Value.bool (!(Value.str i t == Value.bool d))) h
  | byt i => obtain ⟨t, rfl⟩ := (show ∃ t, v = Value.bytes i t from r); exact wpAny_pure (a := Value.bool (!(Value.bytes i t == Value.bool d))) h
  | flt i => obtain ⟨t, rfl⟩ := (show ∃ t, v = Value.float i t from r); exact wpAny_pure (a := Value.bool (!(Value.float i t == Value.bool d))) h
  | ref i => cases (show v = Value.ref i from r); exact wpAny_pure (a := Value.bool (!(Value.ref i == Value.bool d))) h
  | ty i => cases (show v = Value.type i from r); exact wpAny_pure (a := Value.bool (!(Value.type i == Value.bool d))) h
section
variable {X : Cx}
theorem op_isG : OpR X (compareOp .Is) rIsG := by
  intro pins s σ H x y v u Q I rx ry h
  obtain ⟨b, rfl, q⟩ := h
  cases (show u = Value.bool b from ry)
  exact is_bool_gen rx ⟨.bl _, H, I, rfl, q⟩
theorem op_notG : OpR X (compareOp .IsNot) rNotG := by
  intro pins s σ H x y v u Q I rx ry h
  obtain ⟨b, rfl, q⟩ := h
  cases (show u = Value.bool b from ry)
  exact isnot_bool_gen rx ⟨.bl _, H, I, rfl, q⟩
end
theorem x_isG {H : Hp} {Q : VK} {x : V} {b : Bool} (q : Q (.bl (decide (x = .bl b))) H) : rIsG x (.bl b) H Q := ⟨b, rfl, q⟩
theorem x_notG {H : Hp} {Q : VK} {x : V} {b : Bool} (q : Q (.bl (!decide (x = .bl b))) H) : rNotG x (.bl b) H Q := ⟨b, rfl, q⟩
/-- an if without else whose one store is a name: what follows is shown once, for every value it may have -/
theorem x_ifJ {σ : L2.St} {H : Hp} {D : Ends} {tt : TT} {tu : TS} (i : Nat) (W : V → Prop) (k : ∀ v H', Same H H' → W v → D.nx (σ.set i (some v)) H') (h : ∀ R : L2.St → Hp → Prop, (∀ v H', Same H H' → W v → R (σ.set i (some v)) H') → tIfS tt tu tNext { D with nx := R } σ H) : tIfS tt tu tNext D σ H := h D.nx k
theorem Trk.take {H0 H : Hp} {L : List (Addr × HO)} (T : Trk H0 H L) (k : Nat) : Trk H0 H (L.take k) := ⟨T.same, fun p hp => T.new p (List.mem_of_mem_take hp), by
  rw [List.map_take]
  exact List.Nodup.sublist (List.take_sublist _ _) T.nd, fun p hp => T.at_ p (List.mem_of_mem_take hp)⟩
theorem cut_last {xs : List V} {v : V} : cutV (xs ++ [v]) none (some (-1)) = xs := by
  unfold cutV
  rw [HT.sIx_none]
  have e : HT.sIx (xs ++ [v]).length (xs ++ [v]).length (some (-1)) = xs.length := by
    unfold HT.sIx
    rw [List.length_append, List.length_singleton]
    simp only []
    split <;> omega
  rw [e, Nat.sub_zero, List.drop_zero, List.take_left]
theorem top_nat (b t x : Nat) : (t : Int) * (b : Int) + (x : Int) = ((x + b * t : Nat) : Int) := by
  rw [Int.natCast_add, Int.natCast_mul, Int.mul_comm, Int.add_comm]

/-! ### objects laid while T is told on -/
section
variable {K : PySem.W.Frag} {H0 H : Hp} {L : List (Addr × HO)} {Q : VK} {xs : List V} {o : HO}
theorem t_new (T : Trk H0 H L) (hz : xs.length ≤ 100000) (k : ∀ d, Trk H0 (upd H d (.lst xs)) ((d, .lst xs) :: L) → Q (.ref d) (upd H d (.lst xs))) : rNewL xs H Q := ⟨sz hz, fun d hd => k d (T.lay hd)⟩
theorem t_tup (T : Trk H0 H L) (hz : xs.length ≤ 100000) (k : ∀ d, Trk H0 (upd H d (.tup xs)) ((d, .tup xs) :: L) → Q (.ref d) (upd H d (.tup xs))) : rNewT xs H Q := ⟨sz hz, fun d hd => k d (T.lay hd)⟩
theorem t_list {p : Addr} (T : Trk H0 H L) (h : H p = some (.lst xs)) (k : ∀ d, Trk H0 (upd H d (.lst xs)) ((d, .lst xs) :: L) → Q (.ref d) (upd H d (.lst xs))) : rList1 K [.ref p] H Q := x_list h fun d hd => k d (T.lay hd)
theorem t_cut {p : Addr} {lo hi : Option Int} (T : Trk H0 H L) (h : H p = some (.lst xs)) (k : ∀ d, Trk H0 (upd H d (.lst (cutV xs lo hi))) ((d, .lst (cutV xs lo hi)) :: L) → Q (.ref d) (upd H d (.lst (cutV xs lo hi)))) : rSlL K (.ref p) lo hi H Q := x_cut h fun d hd => k d (T.lay hd)
theorem t_cat {p q : Addr} {ys : List V} (T : Trk H0 H L) (h1 : H p = some (.lst xs)) (h2 : H q = some (.lst ys)) (hz : xs.length + ys.length ≤ 100000) (k : ∀ d, Trk H0 (upd H d (.lst (xs ++ ys))) ((d, .lst (xs ++ ys)) :: L) → Q (.ref d) (upd H d (.lst (xs ++ ys)))) : rCat (.ref p) (.ref q) H Q := x_cat h1 h2 hz fun d hd => k d (T.lay hd)
theorem t_rep {p : Addr} {v : V} {i : Nat} (T : Trk H0 H L) (h : H p = some (.lst [v])) (hk : i ≤ 100000) (k : ∀ d, Trk H0 (upd H d (.lst (List.replicate i v))) ((d, .lst (List.replicate i v)) :: L) → Q (.ref d) (upd H d (.lst (List.replicate i v)))) : rRep (.ref p) (.int (i : Int)) H Q := x_rep h hk fun d hd => k d (T.lay hd)
/-- a promise of a list, of a value, while T is told on -/
theorem t_retL (T : Trk H0 H L) (k : ∀ p H', Trk H0 H' ((p, .lst xs) :: L) → Q (.ref p) H') : RetL xs H Q := fun p H' hp s h => k p H' (T.add s hp h)
theorem t_retV {v : V} (T : Trk H0 H L) (k : ∀ H', Trk H0 H' L → Q v H') : RetV v H Q := fun H' s => k H' (T.call s)
theorem t_retP {v : V} (T : Trk H0 H L) (k : ∀ t p H', Trk H0 H' ((t, .tup [.ref p, v]) :: (p, .lst xs) :: L) → Q (.ref t) H') : RetP xs v H Q := fun t p H' ht hp ne s h1 h2 => by
  refine k t p H' ⟨T.same.trans s, fun q hq => ?_, ?_, fun q hq => ?_⟩
  · rcases List.mem_cons.mp hq with rfl | hq
    · exact T.same.free ht
    · exact (T.add s hp h1).new q hq
  · rw [List.map_cons]
    refine List.nodup_cons.mpr ⟨fun hm => ?_, (T.add s hp h1).nd⟩
    rw [List.map_cons] at hm
    rcases List.mem_cons.mp hm with e | hm
    · exact ne e
    · obtain ⟨q, hq, e⟩ := List.mem_map.mp hm
      have := T.at_ q hq
      rw [e] at this
      rw [show H t = none from ht] at this
      cases this
  · rcases List.mem_cons.mp hq with rfl | hq
    · exact h2
    · exact (T.add s hp h1).at_ q hq
theorem t_retPP {ys : List V} (T : Trk H0 H L) (k : ∀ t p q H', Trk H0 H' ((t, .tup [.ref p, .ref q]) :: (p, .lst xs) :: (q, .lst ys) :: L) → Q (.ref t) H') : RetPP xs ys H Q := fun t p q H' ht hp hq n1 n2 n3 s h1 h2 h3 => by
  have T1 := T.add s hq h2
  have ne : ∀ (a : Addr), H a = none → ∀ r ∈ L, r.1 ≠ a := fun a ha r hr e => by
    have := T.at_ r hr
    rw [e, show H a = none from ha] at this
    cases this
  refine k t p q H' ⟨T.same.trans s, fun r hr => ?_, ?_, fun r hr => ?_⟩
  · rcases List.mem_cons.mp hr with rfl | hr
    · exact T.same.free ht
    · rcases List.mem_cons.mp hr with rfl | hr
      · exact T.same.free hp
      · exact T1.new r hr
  · rw [List.map_cons, List.map_cons]
    refine List.nodup_cons.mpr ⟨fun hm => ?_, List.nodup_cons.mpr ⟨fun hm => ?_, T1.nd⟩⟩
    · rcases List.mem_cons.mp hm with e | hm
      · exact n1 e
      · rw [List.map_cons] at hm
        rcases List.mem_cons.mp hm with e | hm
        · exact n2 e
        · obtain ⟨r, hr, e⟩ := List.mem_map.mp hm
          exact ne t ht r hr e
    · rw [List.map_cons] at hm
      rcases List.mem_cons.mp hm with e | hm
      · exact n3 e
      · obtain ⟨r, hr, e⟩ := List.mem_map.mp hm
        exact ne p hp r hr e
  · rcases List.mem_cons.mp hr with rfl | hr
    · exact h3
    · rcases List.mem_cons.mp hr with rfl | hr
      · exact h1
      · exact T1.at_ r hr
theorem t_app {i : Nat} {p : Addr} {v : V} (T : Trk H0 H L) (e : L[i]? = some (p, .lst xs)) (hz : xs.length < 100000) (k : Trk H0 (upd H p (.lst (xs ++ [v]))) (L.set i (p, .lst (xs ++ [v]))) → Q .non (upd H p (.lst (xs ++ [v])))) : rAppend (.ref p) [v] H Q :=
  x_app (T.get e) hz (k (T.mut i e))
end
/-! ### lengths -/
theorem digits_len_add {b n m k : Nat} (hb : 2 ≤ b) (h1 : (digits b n).length ≤ k) (h2 : (digits b m).length ≤ k) : (digits b (n + m)).length ≤ k + 1 := by
  refine digits_len_le hb ?_
  have a1 := (digits_len_lt hb).mp h1
  have a2 := (digits_len_lt hb).mp h2
  have a3 : b ^ k * 2 ≤ b ^ (k + 1) := by
    rw [Nat.pow_succ]
    exact Nat.mul_le_mul_left _ hb
  omega
theorem digits_len_mul {b n m k j : Nat} (hb : 2 ≤ b) (h1 : (digits b n).length ≤ k) (h2 : (digits b m).length ≤ j) : (digits b (n * m)).length ≤ k + j := by
  refine digits_len_le hb ?_
  have a1 := (digits_len_lt hb).mp h1
  have a2 := (digits_len_lt hb).mp h2
  rw [Nat.pow_add]
  have p1 : 0 < b ^ k := Nat.pow_pos (by omega)
  have p2 : 0 < b ^ j := Nat.pow_pos (by omega)
  rcases Nat.eq_zero_or_pos m with h | h
  · rw [h, Nat.mul_zero]
    exact Nat.mul_pos p1 p2
  · calc n * m < b ^ k * m := Nat.mul_lt_mul_of_pos_right a1 h
      _ ≤ b ^ k * b ^ j := Nat.mul_le_mul_left _ (Nat.le_of_lt a2)
theorem fn0 {P : Program} {w : World} {K : PySem.W.Frag} {mg : Str → Option Value} {base : Heap} {x : Str} {st : Stmt} {N ps : List Str} {k : Nat} {sp : Sp} {f : Addr} {fd : FuncData} (F : FunD K x x (defArgs st) (defBody st) (defScope st) [] [] f fd) (S : FnScope N ps (defScope st))
    (len : ∀ vs H Q E, sp vs H Q E → vs.length = ps.length)
    (hbody : ∀ (cdv : Value) (A : Around) (outer : List Env) (s : Shared) (H : Hp) (vs : List V) (Q : VK) (E : XK), Room k (A.deeper (envOfC x (defScope st) s.heap.objs.size f cdv)) → sp vs H Q E →
      ∃ t, PSs (cxOf CX0 P w K mg base N x (defScope st) f cdv A outer s H E).nox (defBody st) t ∧ t { nx := fun _ H' => Q .non H', rt := Q } (start N vs) H) : FnOk P w K mg base CX0 (k + 1) f fd ps sp := by
  refine F.ok S len fun cdv A outer s H vs Q E hr h => ?_
  obtain ⟨t, h1, h2⟩ := hbody cdv A outer s H vs Q E hr h
  exact ⟨t, h1.nox, h2⟩
/-- the law's promise -/
def spLaw (K : PySem.W.Frag) : Sp := fun vs H Q _ => ∃ (a : Addr) (ns : List Int), vs = [.ref a] ∧ SqL K H a (ns.map V.int) ∧ ∀ H', Q (.bl true) H'
theorem Dfn.of {K : PySem.W.Frag} {mg : Str → Option Value} {h : Heap} {x : Str} {st : Stmt} {fa : List He.Fa} {fn : List He.DefD} (c : He.SaysD fa fn K) (X : K.In h) (G : h.Ns mainGlobals mg) (i j : Nat) (hi : fn[i]? = some ⟨(x, none), x, x, defArgs st, defBody st, defScope st, [], []⟩) (hj : fa[j]? = some (.glo x)) : Dfn K mg x st := by
  obtain ⟨fd, F⟩ := c.def_ i hi
  exact ⟨_, fd, F, He.glo_ok X G (c.fact j hj)⟩
theorem free_of {K : PySem.W.Frag} {mg : Str → Option Value} {h : Heap} {x : Str} {fa : List He.Fa} {fn : List He.DefD} (c : He.SaysD fa fn K) (X : K.In h) (G : h.Ns mainGlobals mg) (j : Nat) (hj : fa[j]? = some (.free x)) : mg x = none := He.free_ok X G (c.fact j hj)
theorem int_of {K : PySem.W.Frag} {mg : Str → Option Value} {h : Heap} {x : Str} {i : Int} {fa : List He.Fa} {fn : List He.DefD} (c : He.SaysD fa fn K) (X : K.In h) (G : h.Ns mainGlobals mg) (j : Nat) (hj : fa[j]? = some (.int x i)) : ∃ t, mg x = some (.int i t) := He.int_ok X G (c.fact j hj)
/-! ### joins, picks -/
theorem x_mid {σ : L2.St} {H : Hp} {D : Ends} {t : TS} (Mid : L2.St → Hp → Prop) (h : ∀ R : L2.St → Hp → Prop, (∀ σ' H', Mid σ' H' → R σ' H') → t { D with nx := R } σ H) (k : ∀ σ' H', Mid σ' H' → D.nx σ' H') : t D σ H := h D.nx k
section
variable {H0 H : Hp} {L : List (Addr × HO)} {p q r : Addr} {o u v : HO}
theorem nd_ne {L : List (Addr × HO)} (nd : (L.map (·.1)).Nodup) {i j : Nat} {p q : Addr} {o u : HO} (e1 : L[i]? = some (p, o)) (e2 : L[j]? = some (q, u)) (hij : i ≠ j) : p ≠ q := fun z => by
  refine hij (nd_ix nd (x := p) ?_ ?_)
  · rw [List.getElem?_map, e1]
    rfl
  · rw [List.getElem?_map, e2, z]
    rfl
theorem Trk.one (T : Trk H0 H L) (i : Nat) (e : L[i]? = some (p, o)) : Trk H0 H [(p, o)] := ⟨T.same, fun x hx => by
  rw [List.mem_singleton.mp hx]
  exact T.fresh e, by
  rw [List.map_cons, List.map_nil]
  exact List.nodup_cons.mpr ⟨List.not_mem_nil, List.nodup_nil⟩, fun x hx => by
  rw [List.mem_singleton.mp hx]
  exact T.get e⟩
theorem Trk.cons (T : Trk H0 H L) (h0 : H0 p = none) (h : H p = some o) (hn : ∀ x ∈ L, x.1 ≠ p) : Trk H0 H ((p, o) :: L) := ⟨T.same, fun x hx => by
  rcases List.mem_cons.mp hx with rfl | hx
  · exact h0
  · exact T.new x hx, by
  rw [List.map_cons]
  refine List.nodup_cons.mpr ⟨fun hm => ?_, T.nd⟩
  obtain ⟨x, hx, e⟩ := List.mem_map.mp hm
  exact hn x hx e, fun x hx => by
  rcases List.mem_cons.mp hx with rfl | hx
  · exact h
  · exact T.at_ x hx⟩
theorem Trk.two (T : Trk H0 H L) (i j : Nat) (e1 : L[i]? = some (p, o)) (e2 : L[j]? = some (q, u)) (hij : i ≠ j) : Trk H0 H [(p, o), (q, u)] :=
  (T.one j e2).cons (T.fresh e1) (T.get e1) fun x hx => by
    rw [List.mem_singleton.mp hx]
    exact nd_ne T.nd e2 e1 (fun z => hij z.symm)
theorem Trk.three (T : Trk H0 H L) (i j k : Nat) (e1 : L[i]? = some (p, o)) (e2 : L[j]? = some (q, u)) (e3 : L[k]? = some (r, v)) (hij : i ≠ j) (hik : i ≠ k) (hjk : j ≠ k) : Trk H0 H [(p, o), (q, u), (r, v)] :=
  (T.two j k e2 e3 hjk).cons (T.fresh e1) (T.get e1) fun x hx => by
    rcases List.mem_cons.mp hx with rfl | hx
    · exact nd_ne T.nd e2 e1 (fun z => hij z.symm)
    · rw [List.mem_singleton.mp hx]
      exact nd_ne T.nd e3 e1 (fun z => hik z.symm)
theorem Trk.sub {L' : List (Addr × HO)} (T : Trk H0 H L) (h : L'.Sublist L) : Trk H0 H L' := ⟨T.same, fun p hp => T.new p (h.subset hp), (h.map _).nodup T.nd, fun p hp => T.at_ p (h.subset hp)⟩
theorem Trk.perm {L' : List (Addr × HO)} (T : Trk H0 H L) (h : L.Perm L') : Trk H0 H L' := ⟨T.same, fun p hp => T.new p (h.mem_iff.mpr hp), (h.map _).nodup_iff.mp T.nd, fun p hp => T.at_ p (h.mem_iff.mpr hp)⟩
theorem Trk.comp {H1 : Hp} {M : List (Addr × HO)} (T : Trk H0 H L) (T' : Trk H H1 M) : Trk H0 H1 (M ++ L) := by
  refine ⟨T.same.trans T'.same, fun p hp => ?_, ?_, fun p hp => ?_⟩
  · rcases List.mem_append.mp hp with h | h
    · cases e : H0 p.1 with
      | none => rfl
      | some o => exact absurd ((T.same _ _ e).symm.trans (T'.new p h)) (fun z => nomatch z)
    · exact T.new p h
  · rw [List.map_append]
    refine List.nodup_append.mpr ⟨T'.nd, T.nd, fun x hx y hy e => ?_⟩
    obtain ⟨u, hu, rfl⟩ := List.mem_map.mp hx
    obtain ⟨v, hv, rfl⟩ := List.mem_map.mp hy
    have h1 := T'.new u hu
    rw [e, T.at_ v hv] at h1
    cases h1
  · rcases List.mem_append.mp hp with h | h
    · exact T'.at_ p h
    · exact T'.same _ _ (T.at_ p h)
theorem Trk.four {p q r s : Addr} {o u v w : HO} (T : Trk H0 H L) (i j k l : Nat) (e1 : L[i]? = some (p, o)) (e2 : L[j]? = some (q, u)) (e3 : L[k]? = some (r, v)) (e4 : L[l]? = some (s, w)) (hij : i ≠ j) (hik : i ≠ k) (hil : i ≠ l) (hjk : j ≠ k) (hjl : j ≠ l) (hkl : k ≠ l) : Trk H0 H [(p, o), (q, u), (r, v), (s, w)] :=
  (T.three j k l e2 e3 e4 hjk hjl hkl).cons (T.fresh e1) (T.get e1) fun x hx => by
    rcases List.mem_cons.mp hx with rfl | hx
    · exact fun z => nd_ne T.nd e1 e2 hij z.symm
    rcases List.mem_cons.mp hx with rfl | hx
    · exact fun z => nd_ne T.nd e1 e3 hik z.symm
    rcases List.mem_cons.mp hx with rfl | hx
    · exact fun z => nd_ne T.nd e1 e4 hil z.symm
    cases hx
end
theorem cal_none {P : Program} {w : World} {K : PySem.W.Frag} {mg : Str → Option Value} {base : Heap} {x : Str} {st : Stmt} {ps : List Str} {k : Nat} {sp : Sp} {CX : CXT} (D : Dfn K mg x st)
    (hb : ∀ (kV doc pm : Value) (an : Option Addr) (cdv ct : Value) (us : List Value), us.length = ps.length → bindArgs (PySem.W.fnOf x x (defArgs st) (defBody st) (defScope st) .none kV doc pm an cdv ct) ⟨us, []⟩ = pure (ps.zip us))
    (hno : ∀ vs H Q E, ¬ sp vs H Q E) : Cal P w K mg base CX x k ps sp := by
  obtain ⟨f, fd, F, hm⟩ := D
  exact ⟨f, fd, ⟨fun vs H Q E h => absurd h (hno vs H Q E), fun A outer s H args us vs Q E _ _ _ _ h => absurd h (hno vs H Q E)⟩, hm, F.kp, F.bindsN hb⟩
/-- a loop over a list that leaves all as it is, but for its own name -/
theorem for_keep {K : PySem.W.Frag} {H0 H : Hp} {L : List (Addr × HO)} {σ : L2.St} {D : Ends} {tb : TS} {a : Addr} {xs : List V} {j : Nat} (T : Trk H0 H L) (ha : ∀ H', Trk H0 H' L → H' a = some (.lst xs)) (y0 : Option V) (h0 : σ.set j y0 = σ)
    (hs : ∀ (i : Nat) (x : V) (y : Option V) (H' : Hp), xs[i]? = some x → Trk H0 H' L → tb { D with nx := fun σ2 H2 => (∃ y, σ2 = σ.set j y) ∧ Trk H0 H2 L, ct := fun σ2 H2 => (∃ y, σ2 = σ.set j y) ∧ Trk H0 H2 L, bk := D.nx } (σ.set j (some x)) H') (hd : ∀ (y : Option V) (H' : Hp), Trk H0 H' L → D.nx (σ.set j y) H') :
    ∃ W : Nat → Nat → L2.St → Hp → Prop, (∃ m, W 0 m σ H) ∧ ∀ i m σ H, W i m σ H →
      ((Itl K a).stop i H ∧ D.nx σ H) ∨ ((Itl K a).go i H ∧ ∃ N : L2.St → Hp → Prop, (∀ σ' H', N σ' H' → ∃ m', m' < m ∧ W (i + 1) m' σ' H') ∧ ∀ x H', (Itl K a).yld i H x H' → gName j x σ H' fun σ2 H2 => tb { D with nx := N, ct := N, bk := D.nx } σ2 H2) := by
  refine for_list (xs := xs) (fun i σ' H' => (∃ y, σ' = σ.set j y) ∧ Trk H0 H' L) ⟨⟨y0, h0.symm⟩, T⟩ (fun i σ' H' _ h => SqL.of (ha H' h.2)) ?_ ?_
  · rintro i x σ' H' hx ⟨⟨y, rfl⟩, T⟩
    have h := hs i x (some x) H' hx T
    show tb _ ((σ.set j y).set j (some x)) H'
    rw [List.set_set]
    exact h
  · rintro σ' H' ⟨⟨y, rfl⟩, T⟩
    exact hd y H' T
/-- a loop over range(n) that changes one name besides its own -/
theorem for_rangeT {H0 H : Hp} {L : List (Addr × HO)} {σ : L2.St} {D : Ends} {tb : TS} {n j : Nat} (i1 : Nat) (val : Nat → V) (T : Trk H0 H L) (y0 : Option V) (h0 : (σ.set i1 (some (val 0))).set j y0 = σ)
    (hs : ∀ (i : Nat) (H' : Hp), i < n → Trk H0 H' L → tb { D with nx := fun σ2 H2 => (∃ y, σ2 = (σ.set i1 (some (val (i + 1)))).set j y) ∧ Trk H0 H2 L, ct := fun σ2 H2 => (∃ y, σ2 = (σ.set i1 (some (val (i + 1)))).set j y) ∧ Trk H0 H2 L, bk := D.nx } ((σ.set i1 (some (val i))).set j (some (.int (i : Int)))) H')
    (hd : ∀ (y : Option V) (H' : Hp), Trk H0 H' L → D.nx ((σ.set i1 (some (val n))).set j y) H') :
    ∃ W : Nat → Nat → L2.St → Hp → Prop, (∃ m, W 0 m σ H) ∧ ∀ i m σ H, W i m σ H →
      ((Itr 0 n).stop i H ∧ D.nx σ H) ∨ ((Itr 0 n).go i H ∧ ∃ N : L2.St → Hp → Prop, (∀ σ' H', N σ' H' → ∃ m', m' < m ∧ W (i + 1) m' σ' H') ∧ ∀ x H', (Itr 0 n).yld i H x H' → gName j x σ H' fun σ2 H2 => tb { D with nx := N, ct := N, bk := D.nx } σ2 H2) := by
  refine for_range (fun i σ' H' => (∃ y, σ' = (σ.set i1 (some (val i))).set j y) ∧ Trk H0 H' L) ⟨⟨y0, h0.symm⟩, T⟩ ?_ ?_
  · rintro i σ' H' hi ⟨⟨y, rfl⟩, T⟩
    have h := hs i H' hi T
    rw [Int.zero_add]
    show tb _ (((σ.set i1 (some (val i))).set j y).set j (some (.int (i : Int)))) H'
    rw [List.set_set]
    exact h
  · rintro σ' H' ⟨⟨y, rfl⟩, T⟩
    exact hd y H' T
theorem x_lc {wi : TI} {g : TG} {tt : TT} {te : TE} {vs : List Nat} {σ : L2.St} {H : Hp} {Q : VK} (h : wi σ H fun J H1 => ∀ D, H1 D = none → ∃ W : Nat → Nat → Hp → Prop, (∃ m, W 0 m (upd H1 D (.lst []))) ∧ ∀ i m H, W i m H →
  (J.stop i H ∧ Q (.ref D) H) ∨ (J.go i H ∧ ∃ Nx : Hp → Prop, (∀ H', Nx H' → ∃ m', m' < m ∧ W (i + 1) m' H') ∧ ∀ x H', J.yld i H x H' → g x (wipe σ vs) H' fun σ2 H2 => wipe σ2 vs = wipe σ vs ∧ tt σ2 H2 fun b H3 =>
    if b = true then te σ2 H3 fun y H4 => ∃ acc, H4 D = some (.lst acc) ∧ acc.length < sizeLine ∧ Nx (upd H4 D (.lst (acc ++ [y]))) else Nx H3)) : tLc wi g tt te vs σ H Q := h
theorem x_yes {σ : L2.St} {H : Hp} {R : Bool → Hp → Prop} (h : R true H) : tYes σ H R := h
/-! ### lists of two lists, compared -/
section
variable {K : PySem.W.Frag} {H : Hp} {Q : VK} {p q a c a' c' : Addr} {l m : List Nat}
theorem dp_two (hp : H p = some (.lst [.ref a, .ref c])) (ha : H a = some (.lst (iv l))) (hc : H c = some (.lst (iv m))) : Dp K H (.ref p) (.list [pdI l, pdI m]) := .lst (SqL.of hp) (.cons (dp_iv ha) (.cons (dp_iv hc) .nil))
theorem shaped_two (l m : List Nat) : SeqAt.shaped (.list [pdI l, pdI m]) = true := by
  unfold SeqAt.shaped
  have h1 : (PyData.list [pdI l, pdI m]).canLay0 = true := by
    show ((pdI l).canLay0 && ((pdI m).canLay0 && true)) = true
    rw [canLay_pdI, canLay_pdI]
    rfl
  have h2 : (PyData.list [pdI l, pdI m]).depth = 2 := by
    show max (pdI l).depth (max (pdI m).depth 0) + 1 = 2
    rw [depth_pdI, depth_pdI]
    rfl
  rw [h1, h2]
  rfl
theorem eqv_two (l m : List Nat) : PyData.eqv (.list [pdI l, pdI m]) (.list [pdI l, pdI m]) = true := by
  show (PyData.eqv (pdI l) (pdI l) && (PyData.eqv (pdI m) (pdI m) && true)) = true
  rw [eqv_pdI, eqv_pdI, decide_eq_true rfl, decide_eq_true rfl]
  rfl
theorem x_neLL (hp : H p = some (.lst [.ref a, .ref c])) (hq : H q = some (.lst [.ref a', .ref c'])) (ha : H a = some (.lst (iv l))) (hc : H c = some (.lst (iv m))) (ha' : H a' = some (.lst (iv l))) (hc' : H c' = some (.lst (iv m))) (k : Q (.bl false) H) : rNeD K (.ref p) (.ref q) H Q :=
  ⟨_, _, dp_two hp ha hc, dp_two hq ha' hc', shaped_two l m, shaped_two l m, by rw [eqv_two]; exact k⟩
theorem x_eqLL (hp : H p = some (.lst [.ref a, .ref c])) (hq : H q = some (.lst [.ref a', .ref c'])) (ha : H a = some (.lst (iv l))) (hc : H c = some (.lst (iv m))) (ha' : H a' = some (.lst (iv l))) (hc' : H c' = some (.lst (iv m))) (k : Q (.bl true) H) : rEqD K (.ref p) (.ref q) H Q :=
  ⟨_, _, dp_two hp ha hc, dp_two hq ha' hc', shaped_two l m, shaped_two l m, by rw [eqv_two]; exact k⟩
end
theorem pow_bits {b z k : Nat} (hb : 2 ≤ b ∧ b ≤ 1000000) (h : (digits b z).length ≤ k) : (z : Int).natAbs < 2 ^ (20 * k + 1) := by
  have h1 := (digits_len_lt hb.1).mp h
  have h2 : b ^ k ≤ (2 ^ 20) ^ k := Nat.pow_le_pow_left (by have := hb.2; omega) k
  rw [← Nat.pow_mul] at h2
  rw [Int.natAbs_natCast]
  exact Nat.lt_of_lt_of_le h1 (Nat.le_trans h2 (Nat.pow_le_pow_right (by decide) (Nat.le_succ _)))
theorem RetP.go {v : V} {i j : Nat} {t p : Addr} (k : RetP xs v H0 Q) (T : Trk H0 H L) (hij : i ≠ j) (e1 : L[i]? = some (t, .tup [.ref p, v])) (e2 : L[j]? = some (p, .lst xs)) : Q (.ref t) H := k t p H (T.fresh e1) (T.fresh e2) (nd_ne T.nd e1 e2 hij) T.same (T.get e2) (T.get e1)
theorem RetPP.go {ys : List V} {i j l : Nat} {t p q : Addr} (k : RetPP xs ys H0 Q) (T : Trk H0 H L) (hij : i ≠ j) (hil : i ≠ l) (hjl : j ≠ l) (e1 : L[i]? = some (t, .tup [.ref p, .ref q])) (e2 : L[j]? = some (p, .lst xs)) (e3 : L[l]? = some (q, .lst ys)) : Q (.ref t) H := k t p q H (T.fresh e1) (T.fresh e2) (T.fresh e3) (nd_ne T.nd e1 e2 hij) (nd_ne T.nd e1 e3 hil) (nd_ne T.nd e2 e3 hjl) T.same (T.get e2) (T.get e3) (T.get e1)

/-! ### exceptions -/
/-- an own class of errors -/
def Exc1 (K : PySem.W.Frag) (mg : Str → Option Value) (x : Str) : Prop := mg x = some (.ref (He.ga K x)) ∧ PySem.W.excIn K (He.ga K x) He.veBase "ValueError.__new__" = true ∧ PySem.W.keepIn K (.ref (He.ga K x)) = true ∧ PySem.W.subIn K (.ref (He.ga K x)) (.type "BaseException") = some true ∧
  PySem.W.typeIn K (.ref (He.ga K x)) = some (.type "type")
theorem raise1 {X : Cx} {W : WX} {x m : Str} {j : Nat} {p p2 pos pos' : Pos} (e : Exc1 X.K X.mg x) (hc : X.calm = true) (tk : Takes X W) (hg : Gl X x) (hdb : (x == ("__debug__" : Str)) = false := by decide) :
    PS X (.Raise (some (.Call (.Name x p) [.Constant (.str m) j p2] [] pos)) none pos') (fun _ σ H => W (.ref (He.ga X.K x)) none σ H) :=
  ps_raise hc tk (pmk_own PySem.F.excBase_ValueError e.2.1 e.1 e.2.2.1 (raises_own e.2.2.2.1 e.2.2.2.2) hg hdb)
theorem takes0 {X : Cx} : Takes X (fun _ _ _ _ => False) := fun _ _ ⟨_, _, _, _, _, _, _, _, _, _, _, _, _, _, _, _, w⟩ => w.elim
def tTryO (K : PySem.W.Frag) (c : Value) (ts : Addr → Value → Option Addr → TS) (Wout : WX) (tb : WX → TS) : TS := fun D σ H => tb (wOnly K c ts Wout D) D σ H
def tTryA (K : PySem.W.Frag) (c : Value) (i : Nat) (ts : Addr → Value → Option Addr → TS) (Wout : WX) (tb : WX → TS) : TS := fun D σ H => tb (wAs K c i ts Wout D) D σ H
section
variable {X : Cx} {x n : Str} {c : Value} {i : Nat} {body suite : List Stmt} {b₀ : Stmt} {np pos pos' : Pos} {tb : WX → TS} {ts : Addr → Value → Option Addr → TS} {Wout : WX}
theorem ps_tryO (hc : Names X x c) (hs : X.stack = X.env :: X.outer) (hf : X.env.frame = some X.env.locals) (tk : Takes X Wout)
    (hb : ∀ (W : WX) (pn : List (Addr × Obj)) (xe : Value → Shared → Prop), Takes (X.tr pn xe) W → PassesOwn (model X.prog X.w) X.A X.env xe → PSs (X.tr pn xe) body (tb W))
    (hsu : ∀ (a : Addr) (oe : Obj) (cls : Value) (d : Option Addr) (pn : List (Addr × Obj)), Zc cls d oe → (∃ vs, oe.data = .fields vs) → PSs (X.suite a ((a, oe) :: pn)) (b₀ :: suite) (ts a cls d)) :
    PS X (.Try body [.ExceptHandler (some (.Name x np)) none (b₀ :: suite) pos'] [] [] pos) (tTryO X.K c ts Wout tb) := ps_try_only hs hf hc tk hb hsu
theorem ps_tryA (hc : Names X x c) (hs : X.stack = X.env :: X.outer) (hf : X.env.frame = some X.env.locals) (hN : X.N.Nodup) (hi : X.N[i]? = some n) (hln : X.env.kindOf n = some .local) (tk : Takes X Wout)
    (hb : ∀ (W : WX) (pn : List (Addr × Obj)) (xe : Value → Shared → Prop), Takes (X.tr pn xe) W → PassesOwn (model X.prog X.w) X.A X.env xe → PSs (X.tr pn xe) body (tb W))
    (hsu : ∀ (a : Addr) (oe : Obj) (cls : Value) (d : Option Addr) (pn : List (Addr × Obj)), Zc cls d oe → (∃ vs, oe.data = .fields vs) → PSs (X.suite a ((a, oe) :: pn)) (b₀ :: suite) (ts a cls d)) :
    PS X (.Try body [.ExceptHandler (some (.Name x np)) (some n) (b₀ :: suite) pos'] [] [] pos) (tTryA X.K c i ts Wout tb) := ps_try_as hs hf hN hi hln hc tk hb hsu
/-- a suite that asks the caught error, of a class of the program -/
def tExc (K : PySem.W.Frag) (cls : Value) (d : Option Addr) (t : Addr → TS) : TS := fun D σ H => ∃ Dc, cls = .ref Dc ∧ d = none ∧ ExcC K Dc ∧ t Dc D σ H
theorem pss_exc {ss : List Stmt} {t : Addr → TS} {cls : Value} {d : Option Addr} {oe : Obj} {K : PySem.W.Frag} (hz : Zc cls d oe) (h : ∀ Dc, ExcC K Dc → Zc (.ref Dc) none oe → PSs X ss (t Dc)) : PSs X ss (tExc K cls d t) := by
  refine ⟨fun pins s σ H D I ⟨Dc, e1, e2, hc, q⟩ => ?_⟩
  subst e1 e2
  exact (h Dc hc hz).run pins s σ H D I q
end
section
variable {K : PySem.W.Frag} {σ : L2.St} {H : Hp} {D : Ends} {Q : VK} {c cls : Value} {d : Option Addr} {i : Nat} {ts : Addr → Value → Option Addr → TS} {Wout : WX} {tb : WX → TS} {sp : Sp} {E : L2.St → XK} {t : TA}
theorem x_tryO (h : tb (wOnly K c ts Wout D) D σ H) : tTryO K c ts Wout tb D σ H := h
theorem x_tryA (h : tb (wAs K c i ts Wout D) D σ H) : tTryA K c i ts Wout tb D σ H := h
theorem x_callS (h : t σ H fun vs H1 => sp vs H1 Q (E σ)) : tCallS sp E t σ H Q := h
theorem w_only (e : PySem.W.exmOne K cls c = some true) (h : ∀ a, H a = none → ts a cls d D σ H) : WE (wOnly K c ts Wout D) σ cls d H := ⟨true, e, fun _ => h, fun q => nomatch q⟩
theorem w_as (e : PySem.W.exmOne K cls c = some true) (h : ∀ a, H a = none → ts a cls d { nx := fun σ' H' => D.nx (σ'.set i none) H', rt := D.rt, bk := fun σ' H' => D.bk (σ'.set i none) H', ct := fun σ' H' => D.ct (σ'.set i none) H' } (σ.set i (some (.ref a))) H) : WE (wAs K c i ts Wout D) σ cls d H := ⟨true, e, fun _ => h, fun q => nomatch q⟩
theorem x_exc {C : Addr} {t : Addr → TS} (hc : ExcC K C) (h : t C D σ H) : tExc K (.ref C) none t D σ H := ⟨C, rfl, rfl, hc, h⟩
theorem x_isE {a C : Addr} {v : V} {cv : Value} {b : Bool} (e : PySem.W.kitOne K (.ref C) cv = some b) (hv : ∀ u, RelV v u → u = cv) (k : Q (.bl b) H) : rIsE K C a [.ref a, v] H Q := ⟨v, cv, b, rfl, hv, e, k⟩
theorem rel_ty {n : String} : ∀ u, RelV (.ty n) u → u = .type n := fun _ h => h
theorem rel_ref {a : Addr} : ∀ u, RelV (.ref a) u → u = .ref a := fun _ h => h
end
theorem call_list1T {X : Cx} {K : PySem.W.Frag} (h : X.K = K) : CallR X (.type "list") (rList1 K) := h ▸ call_list1
theorem ix_listT {X : Cx} {K : PySem.W.Frag} (h : X.K = K) : IxR X (rIxL K) := h ▸ ix_list
theorem op_eqDT {X : Cx} {K : PySem.W.Frag} (h : X.K = K) (hu : X.A.units + 64 < cLine) : OpR X (compareOp .Eq) (rEqD K) := h ▸ op_eqD hu
section
variable {X : Cx} {W : WX} {x : Str} {j k : Nat} {ps : List Str} {sp : Sp} {E : XK} {p pos : Pos} {e : Expr} {es : List Expr} {t : TA}
/-- a call in the body of a try -/
theorem pcS (C : Cal X.prog X.w X.K X.mg X.base (L2.CX X.prog X.w) x j ps sp) (hr : Room k X.A) (tk : Takes X W) (ha : PA X (e :: es) t) (hk : j ≤ k := by omega) (hg : Gl X x := by rfl) (hdb : (x == ("__debug__" : Str)) = false := by decide)
    (he : starEach (e :: es) X.env = (false, eval e X.env) :: starEach es X.env := by rfl) (hpl : (backTo pos (starEach es X.env)).any (·.1) = false := by rfl) : PE X (.Call (.Name x p) (e :: es) [] pos) (tCallS sp (WE W) t) := by
  obtain ⟨f, fd, F, hm, kp, b⟩ := C
  exact pe_callS F (hr.mono hk) hg hm kp b (fun σ => passAt tk σ) ha hdb he hpl
/-- a call that may raise, in a def that may -/
theorem pcE (C : Cal X.prog X.w X.K X.mg X.base (L2.CX X.prog X.w) x j ps sp) (hr : Room k X.A) (tk : Takes X (fun cls d _ H => E cls d H)) (ha : PA X (e :: es) t) (hk : j ≤ k := by omega) (hg : Gl X x := by rfl) (hdb : (x == ("__debug__" : Str)) = false := by decide)
    (he : starEach (e :: es) X.env = (false, eval e X.env) :: starEach es X.env := by rfl) (hpl : (backTo pos (starEach es X.env)).any (·.1) = false := by rfl) : PE X (.Call (.Name x p) (e :: es) [] pos) (tCall sp [] E t) :=
  pcX C hr (passes_call tk fun _ _ _ _ h => h) ha hk hg hdb he hpl
end
/-! ### the head, with the classes' own facts -/
inductive ExF where
  | own (x : Str)
  | kit (x y : Str) (b : Bool)
  | kitT (x : Str) (t : String) (b : Bool)
def ExF.ok (K : PySem.W.Frag) : ExF → Bool
  | .own x => (decide (PySem.W.findIn K (.ref (He.ga K x)) "__getattribute__" = some (some (.builtin "BaseException.__getattribute__"))) && (decide (PySem.W.findIn K (.ref (He.ga K x)) "__getattr__" = some none) && (decide (PySem.W.subIn K (.ref (He.ga K x)) (.type "BaseException") = some true) &&
    (PySem.W.hasDictIn K (He.ga K x) && (decide (PySem.W.findIn K (.ref (He.ga K x)) "__class__" = some (some (.builtin "object.__class__"))) && (decide (PySem.W.specialIn K (.builtin "object.__class__") "__get__" = some (some (.builtin "getset_descriptor.__get__"))) &&
    (decide (PySem.W.takesIn K (.builtin "object.__class__") = some true) && decide (PySem.W.mroIn K (He.ga K x) (.type "object") = some true))))))))
  | .kit x y b => decide (PySem.W.kitOne K (.ref (He.ga K x)) (.ref (He.ga K y)) = some b)
  | .kitT x t b => decide (PySem.W.kitOne K (.ref (He.ga K x)) (.type t) = some b)
theorem own_ok {K : PySem.W.Frag} {x : Str} (h : (ExF.own x).ok K = true) : ExcC K (He.ga K x) := by
  obtain ⟨h1, h⟩ := He.ba h
  obtain ⟨h2, h⟩ := He.ba h
  obtain ⟨h3, h⟩ := He.ba h
  obtain ⟨h4, h⟩ := He.ba h
  obtain ⟨h5, h⟩ := He.ba h
  obtain ⟨h6, h⟩ := He.ba h
  obtain ⟨h7, h8⟩ := He.ba h
  exact ⟨of_decide_eq_true h1, of_decide_eq_true h2, of_decide_eq_true h3, h4, of_decide_eq_true h5, of_decide_eq_true h6, of_decide_eq_true h7, of_decide_eq_true h8⟩
theorem kit_ok {K : PySem.W.Frag} {x y : Str} {b : Bool} (h : (ExF.kit x y b).ok K = true) : PySem.W.kitOne K (.ref (He.ga K x)) (.ref (He.ga K y)) = some b := of_decide_eq_true h
theorem kitT_ok {K : PySem.W.Frag} {x : Str} {t : String} {b : Bool} (h : (ExF.kitT x t b).ok K = true) : PySem.W.kitOne K (.ref (He.ga K x)) (.type t) = some b := of_decide_eq_true h
abbrev AlF : Type := He.AlD × Bool
def obsF (fa : List He.Fa) (fn : List He.DefD) (ex : List ExF) (K : PySem.W.Frag) : AlF := (He.obsD fa fn K, ex.all fun e => e.ok K)
def obsFG (n : Nat) (fa : List He.Fa) (fn : List He.DefD) (ex : List ExF) (g : Addr → Option Obj) : AlF := obsF fa fn ex (He.frG g (He.asD g n))
def hookF (n : Nat) (fa : List He.Fa) (fn : List He.DefD) (ex : List ExF) : PySem.W.Hook where
  α := AlF
  obs := fun s => obsFG n fa fn ex s.heap.get?
  val := fun _ => (He.valD fn, true)
  says := fun _ h => ∃ K : PySem.W.Frag, K.In h ∧ He.SaysD fa fn K ∧ (ex.all fun e => e.ok K) = true
  of := fun _ _ e => ⟨_, He.frG_in, congrArg (fun z : AlF => z.1) e, congrArg (fun z : AlF => z.2) e⟩
  keeps := fun _ _ _ ⟨K, hK, c⟩ k => ⟨K, PySem.W.Frag.In.keeps hK k, c⟩
theorem obsFG_eq {n : Nat} {fa : List He.Fa} {fn : List He.DefD} {ex : List ExF} {g : Addr → Option Obj} {s : Shared} (h : ∀ a, g a = s.heap.get? a) : obsFG n fa fn ex g = (hookF n fa fn ex).obs s := by
  have e : g = s.heap.get? := funext h
  rw [e] <;> rfl
theorem ex_at {K : PySem.W.Frag} {ex : List ExF} (c : (ex.all fun e => e.ok K) = true) (i : Nat) {f : ExF} (h : ex[i]? = some f := by rfl) : f.ok K = true := List.all_eq_true.mp c f (List.mem_of_getElem? h)

end Fg
set_option Elab.async false
set_option linter.all false
set_option maxRecDepth 100000
namespace Fg
open PySem PySem.Spec PyProof.Rows L2
def topS (i : Nat) : Stmt := PySem.Challenge.pw_figrow_k11_whole_ladders.main.body.getD i (.Pass ⟨0, 0, 0, 0⟩)

/-! the walk: one step of a reading, by what stands at its head -/
local macro_rules | `(tactic| walk_at "fact") => `(tactic| first
  | assumption
  | (refine' Trk.get (i := 0) ?k1 ?k2; (case k1 => assumption); (case k2 => exact rfl))
  | (refine' Trk.get (i := 1) ?k1 ?k2; (case k1 => assumption); (case k2 => exact rfl))
  | (refine' Trk.get (i := 2) ?k1 ?k2; (case k1 => assumption); (case k2 => exact rfl))
  | (refine' Trk.get (i := 3) ?k1 ?k2; (case k1 => assumption); (case k2 => exact rfl))
  | (refine' Trk.get (i := 4) ?k1 ?k2; (case k1 => assumption); (case k2 => exact rfl))
  | (refine' Trk.get (i := 5) ?k1 ?k2; (case k1 => assumption); (case k2 => exact rfl))
  | (refine' Trk.get (i := 6) ?k1 ?k2; (case k1 => assumption); (case k2 => exact rfl))
  | (refine' Trk.get (i := 7) ?k1 ?k2; (case k1 => assumption); (case k2 => exact rfl))
  | (refine' Trk.get (i := 8) ?k1 ?k2; (case k1 => assumption); (case k2 => exact rfl))
  | (refine' Trk.get (i := 9) ?k1 ?k2; (case k1 => assumption); (case k2 => exact rfl))
  | (refine' Trk.get (i := 10) ?k1 ?k2; (case k1 => assumption); (case k2 => exact rfl))
  | (refine' Trk.get (i := 11) ?k1 ?k2; (case k1 => assumption); (case k2 => exact rfl))
  | (refine' Trk.get (i := 12) ?k1 ?k2; (case k1 => assumption); (case k2 => exact rfl))
  | (refine' Trk.get (i := 13) ?k1 ?k2; (case k1 => assumption); (case k2 => exact rfl))
  | (refine' Trk.get (i := 14) ?k1 ?k2; (case k1 => assumption); (case k2 => exact rfl))
  | (refine' Trk.get (i := 15) ?k1 ?k2; (case k1 => assumption); (case k2 => exact rfl))
  | (refine' Trk.get (i := 16) ?k1 ?k2; (case k1 => assumption); (case k2 => exact rfl))
  | (refine' Trk.get (i := 17) ?k1 ?k2; (case k1 => assumption); (case k2 => exact rfl))
  | (refine' Trk.get (i := 18) ?k1 ?k2; (case k1 => assumption); (case k2 => exact rfl))
  | (refine' Trk.get (i := 19) ?k1 ?k2; (case k1 => assumption); (case k2 => exact rfl))
  | (refine' Trk.get (i := 20) ?k1 ?k2; (case k1 => assumption); (case k2 => exact rfl))
  | (refine' Trk.get (i := 21) ?k1 ?k2; (case k1 => assumption); (case k2 => exact rfl))
  | (refine' Trk.get (i := 22) ?k1 ?k2; (case k1 => assumption); (case k2 => exact rfl))
  | (refine' Trk.get (i := 23) ?k1 ?k2; (case k1 => assumption); (case k2 => exact rfl))
  | (refine' Trk.get (i := 24) ?k1 ?k2; (case k1 => assumption); (case k2 => exact rfl))
  | (refine' Trk.get (i := 25) ?k1 ?k2; (case k1 => assumption); (case k2 => exact rfl))
  | (refine' Trk.get (i := 26) ?k1 ?k2; (case k1 => assumption); (case k2 => exact rfl))
  | (refine' Trk.get (i := 27) ?k1 ?k2; (case k1 => assumption); (case k2 => exact rfl))
  | (refine' Trk.get (i := 28) ?k1 ?k2; (case k1 => assumption); (case k2 => exact rfl))
  | (refine' Trk.get (i := 29) ?k1 ?k2; (case k1 => assumption); (case k2 => exact rfl))
  | (refine' Trk.get (i := 30) ?k1 ?k2; (case k1 => assumption); (case k2 => exact rfl))
  | (refine' Trk.get (i := 31) ?k1 ?k2; (case k1 => assumption); (case k2 => exact rfl))
  | (refine' Trk.get (i := 32) ?k1 ?k2; (case k1 => assumption); (case k2 => exact rfl))
  | (refine' Trk.get (i := 33) ?k1 ?k2; (case k1 => assumption); (case k2 => exact rfl))
  | (refine' Trk.get (i := 34) ?k1 ?k2; (case k1 => assumption); (case k2 => exact rfl))
  | (refine' Trk.get (i := 35) ?k1 ?k2; (case k1 => assumption); (case k2 => exact rfl))
  | (refine' Trk.get (i := 36) ?k1 ?k2; (case k1 => assumption); (case k2 => exact rfl))
  | (refine' Trk.get (i := 37) ?k1 ?k2; (case k1 => assumption); (case k2 => exact rfl))
  | (refine' Trk.get (i := 38) ?k1 ?k2; (case k1 => assumption); (case k2 => exact rfl))
  | (refine' Trk.get (i := 39) ?k1 ?k2; (case k1 => assumption); (case k2 => exact rfl))
  | (refine' Trk.get (i := 40) ?k1 ?k2; (case k1 => assumption); (case k2 => exact rfl))
  | (refine' Trk.get (i := 41) ?k1 ?k2; (case k1 => assumption); (case k2 => exact rfl))
  | (refine' Trk.get (i := 42) ?k1 ?k2; (case k1 => assumption); (case k2 => exact rfl))
  | (refine' Trk.get (i := 43) ?k1 ?k2; (case k1 => assumption); (case k2 => exact rfl))
  | (refine' Trk.get (i := 44) ?k1 ?k2; (case k1 => assumption); (case k2 => exact rfl))
  | (refine' Trk.up ?k1 ?k2; (case k1 => assumption); (case k2 => assumption))
  | (refine' Trk.sq ?k1 ?k2; (case k1 => assumption); (case k2 => assumption)))
local macro_rules | `(tactic| walk_at "s0") => `(tactic| first
  | with_reducible refine x_asg ?_
  | ((with_reducible refine x_name ?_); dsimp only [List.set_cons_zero, List.set_cons_succ])
  | with_reducible refine x_ret ?_
  | with_reducible refine x_drop ?_
  | with_reducible refine x_next ?_
  | ((with_reducible refine' x_var ?k1 ?_); (case k1 => exact rfl))
  | with_reducible refine x_c ?_
  | with_reducible refine x_op ?_
  | with_reducible refine x_un ?_
  | with_reducible refine x_I0 ?_
  | with_reducible refine x_U ?_
  | with_reducible refine x_eqI ?_
  | with_reducible refine x_isG ?_
  | with_reducible refine x_notG ?_
  | with_reducible refine x_par ?_
  | ((with_reducible refine x_pair ?_); dsimp only [List.set_cons_zero, List.set_cons_succ])
  | ((with_reducible refine' x_tup2 ?k1 ?k2 ?_); (case k1 => walk_at "fact"); (case k2 => exact rfl); dsimp only [List.set_cons_zero, List.set_cons_succ])
  | with_reducible refine x_neI ?_
  | with_reducible refine x_nil ?_
  | with_reducible refine x_cons ?_
  | with_reducible refine x_call ?_
  | with_reducible refine x_cb ?_
  | with_reducible refine x_test ?_
  | with_reducible refine x_B ?_
  | with_reducible refine x_bl ?_
  | with_reducible refine x_not ?_
  | with_reducible refine x_and ?_
  | with_reducible refine x_or ?_
  | with_reducible refine x_andV ?_
  | with_reducible refine x_orV ?_
  | with_reducible refine x_notV ?_
  | with_reducible refine x_ifE ?_
  | with_reducible refine x_chain ?_
  | with_reducible refine x_sl ?_
  | with_reducible refine x_po0 ?_
  | with_reducible refine x_po1 ?_
  | with_reducible refine x_part ?_
  | with_reducible refine x_lst ?_
  | with_reducible refine x_tup ?_
  | with_reducible refine x_bm ?_
  | with_reducible refine x_revL ?_
  | with_reducible refine x_for ?_
  | with_reducible refine x_lc ?_
  | with_reducible refine x_yes ?_
  | with_reducible refine x_iList ?_
  | with_reducible refine x_iRev ?_
  | with_reducible refine x_iR1 ?_
  | with_reducible refine x_iR3 ?_
  | with_reducible refine x_iEn ?_
  | with_reducible refine x_max ?_
  | with_reducible refine x_min ?_
  | ((with_reducible refine' x_len ?k1 ?_); (case k1 => walk_at "fact"))
  | ((with_reducible refine' x_lenS ?k1 ?_); (case k1 => walk_at "fact"))
  | ((with_reducible refine' x_lenT ?k1 ?_); (case k1 => walk_at "fact"))
  | ((with_reducible refine' x_il ?k1 ?_); (case k1 => walk_at "fact"))
  | ((with_reducible refine' x_rv ?k1 ?_); (case k1 => walk_at "fact"))
  | ((with_reducible refine' x_en ?k1 ?_); (case k1 => walk_at "fact"))
  | ((with_reducible refine' x_tyL ?k1 ?_); (case k1 => walk_at "fact"))
  | with_reducible refine iteT ?_
  | with_reducible refine iteF ?_
  | with_reducible refine ifnT ?_
  | with_reducible refine ifnF ?_
  | (with_reducible refine x_r1 (by omega) ?_))
local macro_rules | `(tactic| walk_at "s1") => `(tactic| first | with_reducible refine x_seq ?_ | walk_at "s0")
local macro_rules | `(tactic| walk_at "e") => `(tactic| repeat (walk_at "s0"))
local macro_rules | `(tactic| walk_at "p") => `(tactic| repeat (walk_at "s1"))
local macro_rules | `(tactic| walk_at "s") => `(tactic| repeat (first | with_reducible refine x_if ?_ | walk_at "s1"))

/-! ### the law's own helpers: a draw, a base -/
abbrev s__law_draw : Stmt := topS 25
theorem sc__law_draw : FnScope ["_law_script", "_law_k"] ["_law_script", "_law_k"] (defScope s__law_draw) := ⟨rfl, rfl, rfl, by decide +kernel, rfl, by decide +kernel, by decide +kernel⟩
def spDraw (K : PySem.W.Frag) : Sp := fun vs H Q _ => ∃ (a : Addr) (ns : List Int) (k : Int), vs = [.ref a, .int k] ∧ SqL K H a (ns.map V.int) ∧ 0 ≤ k ∧ ∀ z : Int, RetV (.int z) H Q
theorem ok_law_draw {P : Program} {w : World} {K : PySem.W.Frag} {mg : Str → Option Value} {base : Heap} (D : Dfn K mg "_law_draw" s__law_draw) (m_len : mg "len" = none) : Cal P w K mg base CX0 "_law_draw" 1 ["_law_script", "_law_k"] (spDraw K) := by
  refine cal0 D sc__law_draw (fun _ _ _ _ _ _ us hl => match us, hl with | [_, _], _ => rfl) (fun vs H Q E h => ?_) (fun f cdv A outer s H vs Q E hr h => ?_)
  · obtain ⟨a, ns, k, rfl, _⟩ := h
    rfl
  obtain ⟨a, ns, ki, rfl, ha, hk, q⟩ := h
  obtain ⟨k, rfl⟩ : ∃ k : Nat, ki = (k : Int) := ⟨ki.toNat, by omega⟩
  refine ⟨_, (pss_one (ps_ret (pe_ifExp (pt_cmpR op_gt (pe_callB call_len1 (by rfl) m_len PySem.boot_len (pa_cons (pv 0) pa_nil)) (pv 1) (nomark _)) (pe_ix ix_list (pv 0) (pv 1) (fun _ _ => rfl)) pe_int))), ?_⟩
  show tRet _ _ [some (.ref a), some (.int (k : Int))] H
  walk_at "s"
  rw [List.length_map]
  refine if2 (fun h1 => ?_) (fun h1 => ?_)
  · have h2 : (k : Int) < (ns.length : Int) := of_decide_eq_true h1
    walk_at "s"
    refine x_ixS (v := .int (ns[k]'(by omega))) ha (atI_nat (by rw [List.getElem?_map, List.getElem?_eq_getElem (by omega)]; rfl)) ?_
    exact q _ H (Same.refl H)
  · walk_at "s"
    exact q _ H (Same.refl H)
abbrev s__law_base_by : Stmt := topS 26
theorem sc__law_base_by : FnScope ["_law_cell"] ["_law_cell"] (defScope s__law_base_by) := ⟨rfl, rfl, rfl, by decide +kernel, rfl, by decide +kernel, by decide +kernel⟩
def spBaseBy : Sp := fun vs H Q _ => ∃ (z : Int), vs = [.int z] ∧ ∀ b : Nat, (2 ≤ b ∧ b ≤ 1000000) → RetV (.int (b : Int)) H Q
theorem ok_law_base_by {P : Program} {w : World} {K : PySem.W.Frag} {mg : Str → Option Value} {base : Heap} (D : Dfn K mg "_law_base_by" s__law_base_by) : Cal P w K mg base CX0 "_law_base_by" 1 ["_law_cell"] spBaseBy := by
  refine cal0 D sc__law_base_by (fun _ _ _ _ _ _ us hl => match us, hl with | [_], _ => rfl) (fun vs H Q E h => ?_) (fun f cdv A outer s H vs Q E hr h => ?_)
  · obtain ⟨a, rfl, _⟩ := h
    rfl
  obtain ⟨z, rfl, q⟩ := h
  have fin : ∀ i : Int, 2 ≤ i → i ≤ 1000000 → ∀ H', Same H H' → Q (.int i) H' := fun i h1 h2 H' s => by
    have := q i.toNat ⟨by omega, by omega⟩ H' s
    rw [Int.toNat_of_nonneg (by omega)] at this
    exact this
  refine ⟨_, (pss_cons (ps_if (pt_cmpR op_eq (pe_op op_mod (pv 0) pe_int) pe_int (nomark _)) (pss_one (ps_ret (pe_op op_add pe_int (pe_op op_mod (pe_op op_fdiv (pv 0) pe_int) pe_int)))) pss_nil)
      (pss_cons (ps_if (pt_cmpR op_eq (pe_op op_mod (pv 0) pe_int) pe_int (nomark _)) (pss_one (ps_ret (pe_ix ix_list (pe_lst (pa_cons pe_int (pa_cons pe_int (pa_cons pe_int (pa_cons pe_int (pa_cons pe_int (pa_cons pe_int pa_nil))))))) (pe_op op_mod (pe_op op_fdiv (pv 0) pe_int) pe_int) (fun _ _ => rfl)))) pss_nil)
      (pss_one (ps_ret (pe_op op_add pe_int (pe_op op_mod (pe_op op_fdiv (pv 0) pe_int) pe_int)))))), ?_⟩
  show tSeq _ _ _ [some (.int z)] H
  walk_at "s"
  refine x_I (by decide) ?_
  walk_at "s"
  refine if2 (fun h1 => ?_) (fun h1 => ?_)
  · walk_at "s"
    refine x_I ⟨by decide, by decide⟩ ?_
    walk_at "s"
    refine x_I (by decide) ?_
    walk_at "s"
    exact fin _ (by omega) (by omega) H (Same.refl H)
  · walk_at "s"
    refine x_I (by decide) ?_
    walk_at "s"
    refine if2 (fun h1 => ?_) (fun h1 => ?_)
    · walk_at "s"
      refine ⟨sz (by decide), fun d hd => ?_⟩
      walk_at "s"
      refine x_I ⟨by decide, by decide⟩ ?_
      walk_at "s"
      refine x_I (by decide) ?_
      have h2 : 0 ≤ z / 4 % 6 ∧ z / 4 % 6 < 6 := ⟨by omega, by omega⟩
      generalize z / 4 % 6 = k at *
      have h3 : k = 0 ∨ k = 1 ∨ k = 2 ∨ k = 3 ∨ k = 4 ∨ k = 5 := by omega
      rcases h3 with rfl | rfl | rfl | rfl | rfl | rfl
      · exact x_ix upd_same (atI_nat (j := 0) rfl) (fin _ (by omega) (by omega) _ (same_upd hd))
      · exact x_ix upd_same (atI_nat (j := 1) rfl) (fin _ (by omega) (by omega) _ (same_upd hd))
      · exact x_ix upd_same (atI_nat (j := 2) rfl) (fin _ (by omega) (by omega) _ (same_upd hd))
      · exact x_ix upd_same (atI_nat (j := 3) rfl) (fin _ (by omega) (by omega) _ (same_upd hd))
      · exact x_ix upd_same (atI_nat (j := 4) rfl) (fin _ (by omega) (by omega) _ (same_upd hd))
      · exact x_ix upd_same (atI_nat (j := 5) rfl) (fin _ (by omega) (by omega) _ (same_upd hd))
    · walk_at "s"
      refine x_I ⟨by decide, by decide⟩ ?_
      walk_at "s"
      refine x_I (by decide) ?_
      walk_at "s"
      exact fin _ (by omega) (by omega) H (Same.refl H)

/-! ### the law's own helpers: a row drawn, numbers, sameness -/
abbrev s__law_row_by : Stmt := topS 27
theorem sc__law_row_by : FnScope ["_law_script", "_law_k", "_law_base", "_law_most", "_law_size", "_law_way", "_law_left", "_law_row", "_law_j", "_law_figure"] ["_law_script", "_law_k", "_law_base", "_law_most"] (defScope s__law_row_by) := ⟨rfl, rfl, rfl, by decide +kernel, rfl, by decide +kernel, by decide +kernel⟩
def spRowBy (K : PySem.W.Frag) : Sp := fun vs H Q _ => ∃ (a : Addr) (ns : List Int) (k m : Int) (b : Nat), vs = [.ref a, .int k, .int (b : Int), .int m] ∧ SqL K H a (ns.map V.int) ∧ 0 ≤ k ∧ (2 ≤ b ∧ b ≤ 1000000) ∧ (1 ≤ m ∧ m ≤ 1000) ∧
  ∀ n, (digits b n).length ≤ max 8 (m.toNat - 1) → RetL (dig b n) H Q
theorem ok_law_row_by {P : Program} {w : World} {K : PySem.W.Frag} {mg : Str → Option Value} {base : Heap} (D : Dfn K mg "_law_row_by" s__law_row_by) (m_range : mg "range" = none) (m_int : mg "int" = none)
    (C__law_draw : Cal P w K mg base CX0 "_law_draw" 1 ["_law_script", "_law_k"] (spDraw K)) : Cal P w K mg base CX0 "_law_row_by" 2 ["_law_script", "_law_k", "_law_base", "_law_most"] (spRowBy K) := by
  refine cal0 D sc__law_row_by (fun _ _ _ _ _ _ us hl => match us, hl with | [_, _, _, _], _ => rfl) (fun vs H Q E h => ?_) (fun f cdv A outer s H vs Q E hr h => ?_)
  · obtain ⟨a, ns, k, b, m, rfl, _⟩ := h
    rfl
  obtain ⟨a, ns, ki, mi, b, rfl, ha, hk0, ⟨hb, hb6⟩, ⟨hm1, hm2⟩, q⟩ := h
  obtain ⟨k, rfl⟩ : ∃ k : Nat, ki = (k : Int) := ⟨ki.toNat, by omega⟩
  obtain ⟨m, rfl⟩ : ∃ m : Nat, mi = (m : Int) := ⟨mi.toNat, by omega⟩
  rw [Int.toNat_natCast] at q
  refine ⟨_, (pss_cons (ps_set (i := 4) sc__law_row_by.nd rfl (Or.inl rfl) (pe_op op_mod (pc C__law_draw hr (pa_cons (pv 0) (pa_cons (pv 1) pa_nil))) pe_int))
      (pss_cons (ps_if (pt_cmpR op_eq (pe_op op_mod (pe_op op_fdiv (pc C__law_draw hr (pa_cons (pv 0) (pa_cons (pv 1) pa_nil))) pe_int) pe_int) pe_int (nomark _)) (pss_one (ps_set (i := 4) sc__law_row_by.nd rfl (Or.inl rfl) (pe_op op_mod (pe_op op_fdiv (pc C__law_draw hr (pa_cons (pv 0) (pa_cons (pv 1) pa_nil))) pe_int) (pv 3)))) pss_nil)
      (pss_cons (ps_set (i := 5) sc__law_row_by.nd rfl (Or.inl rfl) (pe_op op_mod (pc C__law_draw hr (pa_cons (pv 0) (pa_cons (pe_op op_add (pv 1) pe_int) pa_nil))) pe_int))
      (pss_cons (ps_set (i := 6) sc__law_row_by.nd rfl (Or.inl rfl) (pe_op op_fdiv (pc C__law_draw hr (pa_cons (pv 0) (pa_cons (pe_op op_add (pv 1) pe_int) pa_nil))) pe_int))
      (pss_cons (ps_set (i := 7) sc__law_row_by.nd rfl (Or.inl rfl) (pe_lst pa_nil))
      (pss_cons (ps_for PassesOwn.never rfl (pi_range1 (by rfl) m_range (pa_cons (pv 4) pa_nil)) (pg_name (i := 8) sc__law_row_by.nd rfl (Or.inl rfl)) (pss_cons (ps_set (i := 9) sc__law_row_by.nd rfl (Or.inl rfl) (pe_op op_mod (pe_op op_add (pv 6) (pe_op op_mul (pe_op op_mul (pv 8) (pv 8)) pe_int)) (pv 2)))
      (pss_cons (ps_set (i := 6) sc__law_row_by.nd rfl (Or.inl rfl) (pe_op op_fdiv (pv 6) (pv 2)))
      (pss_cons (ps_if (pt_cmpR op_eq (pv 5) pe_int (nomark _)) (pss_one (ps_set (i := 9) sc__law_row_by.nd rfl (Or.inl rfl) (pe_op op_sub (pv 2) pe_int))) pss_nil)
      (pss_cons (ps_if (pt_cmpR op_eq (pv 5) pe_int (nomark _)) (pss_one (ps_set (i := 9) sc__law_row_by.nd rfl (Or.inl rfl) (pe_callTy call_int1 (by rfl) m_int (by decide +kernel) (pa_cons (pe_cmpR op_eq (pv 8) (pe_op op_sub (pv 4) pe_int) (nomark _)) pa_nil)))) pss_nil)
      (pss_cons (ps_if (PW.pt (pw_and (pt_cmpR op_eq (pv 5) pe_int (nomark _)) (pw_and1 (pt_cmpR op_eq (pe_op op_mod (pv 8) pe_int) pe_int (nomark _))))) (pss_one (ps_set (i := 9) sc__law_row_by.nd rfl (Or.inl rfl) pe_int)) pss_nil)
      (pss_one (ps_expr (pe_bm PySem.F.plainAttrs_list PySem.F.slot_list_append PySem.F.type_list_append mt_append (pv 7) (pa_cons (pv 9) pa_nil))))))))))
      (pss_cons (ps_while PassesOwn.never (PW.pt (pw_and (pt_cmpR (op_neD hr.units) (pv 7) (pe_lst pa_nil) (nomark _)) (pw_and1 (pt_cmpR op_eq (pe_ix ix_list (pv 7) (pe_un un_neg pe_int) (fun _ _ => rfl)) pe_int (nomark _))))) (pss_one (ps_set (i := 7) sc__law_row_by.nd rfl (Or.inl rfl) (pe_slice sl_list (pv 7) po_none (po_some (pe_un un_neg pe_int))))))
      (pss_one (ps_ret (pv 7)))))))))), ?_⟩
  show tSeq _ _ _ [some (.ref a), some (.int (k : Int)), some (.int (b : Int)), some (.int (m : Int)), none, none, none, none, none, none] H
  have T := Trk.nil H
  walk_at "p"
  refine ⟨_, ns, _, rfl, ha, by omega, fun z1 H1 s1 => ?_⟩
  have T := T.call s1
  walk_at "p"
  refine x_I (by decide) ?_
  walk_at "p"
  -- the size
  refine x_ifJ 4 (fun v => ∃ z : Nat, v = .int (z : Int) ∧ z ≤ max 8 (m - 1)) ?_ ?_
  rotate_left
  · intro R hk
    walk_at "s"
    refine ⟨_, ns, _, rfl, T.sq ha, by omega, fun z2 H2 s2 => ?_⟩
    have T := T.call s2
    walk_at "s"
    refine x_I ⟨by decide, by decide⟩ ?_
    walk_at "s"
    refine x_I (by decide) ?_
    walk_at "s"
    refine if2 (fun h1 => ?_) (fun h1 => ?_)
    · walk_at "s"
      refine ⟨_, ns, _, rfl, T.sq ha, by omega, fun z3 H3 s3 => ?_⟩
      walk_at "s"
      refine x_I ⟨by decide, by decide⟩ ?_
      walk_at "s"
      refine x_I (by omega) ?_
      walk_at "s"
      have e1 := Int.emod_nonneg (z3 / 36) (b := (m : Int)) (by omega)
      have e2 := Int.emod_lt_of_pos (z3 / 36) (b := (m : Int)) (by omega)
      exact hk _ _ (s2.trans s3) ⟨(z3 / 36 % (m : Int)).toNat, by rw [Int.toNat_of_nonneg e1], by omega⟩
    · walk_at "s"
      exact hk (.int (z1 % 9)) _ s2 ⟨(z1 % 9).toNat, by rw [Int.toNat_of_nonneg (by omega)], by omega⟩
  rintro v H2 s2 ⟨sz, rfl, hsz⟩
  have T := T.call s2
  dsimp only [List.set_cons_zero, List.set_cons_succ]
  walk_at "p"
  refine ⟨_, ns, _, rfl, T.sq ha, by omega, fun z4 H4 s4 => ?_⟩
  have T := T.call s4
  walk_at "p"
  refine x_I (by decide) ?_
  walk_at "p"
  refine ⟨_, ns, _, rfl, T.sq ha, by omega, fun z5 H5 s5 => ?_⟩
  have T := T.call s5
  walk_at "p"
  refine x_I ⟨by decide, by decide⟩ ?_
  walk_at "p"
  refine ⟨Nat.zero_le _, fun d hd => ?_⟩
  have T := T.lay (o := .lst []) hd
  walk_at "p"
  generalize z4 % 5 = way
  generalize z5 / 5 = left
  rw [Int.toNat_natCast]
  have hz : sz ≤ 1000 := by omega
  refine for_range (fun i σ' H' => ∃ (acc : List Nat) (left : Int) (y z : Option V), σ' = [some (.ref a), some (.int (k : Int)), some (.int (b : Int)), some (.int (m : Int)), some (.int (sz : Int)), some (.int way), some (.int left), some (.ref d), y, z] ∧ AllLt b acc ∧ acc.length = i ∧ Trk H H' [(d, .lst (iv acc))])
    ⟨[], left, none, none, rfl, AllLt.nil, rfl, T⟩ ?_ ?_
  · rintro i σ' H' hi ⟨acc, left, y, z, rfl, hlt, hlen, T⟩
    rw [Int.zero_add]
    walk_at "p"
    refine x_I (Or.inl ⟨by omega, by omega⟩) ?_
    walk_at "p"
    refine x_I (Or.inr ⟨by decide, by decide⟩) ?_
    walk_at "p"
    refine x_I (by omega) ?_
    walk_at "p"
    refine x_I ⟨by omega, by omega⟩ ?_
    walk_at "p"
    have g : ∃ u : Nat, (left + (i : Int) * (i : Int) * 48271) % (b : Int) = (u : Int) ∧ u < b := by
      have e1 := Int.emod_nonneg (left + (i : Int) * (i : Int) * 48271) (b := (b : Int)) (by omega)
      have e2 := Int.emod_lt_of_pos (left + (i : Int) * (i : Int) * 48271) (b := (b : Int)) (by omega)
      exact ⟨((left + (i : Int) * (i : Int) * 48271) % (b : Int)).toNat, by omega, by omega⟩
    obtain ⟨u, hu, hub⟩ := g
    rw [hu]
    refine x_ifJ 9 (fun v => ∃ z : Nat, v = .int (z : Int) ∧ z < b) ?_ ?_
    rotate_left
    · intro R hk
      walk_at "s"
      refine if2 (fun h1 => ?_) (fun h1 => ?_)
      · walk_at "s"
        exact hk _ _ (Same.refl _) ⟨b - 1, by congr 1; omega, by omega⟩
      · walk_at "s"
        exact hk (.int (u : Int)) _ (Same.refl _) ⟨u, rfl, hub⟩
    rintro v H6 s6 ⟨u2, rfl, hub2⟩
    have T := T.call s6
    dsimp only [List.set_cons_zero, List.set_cons_succ]
    walk_at "p"
    refine x_ifJ 9 (fun v => ∃ z : Nat, v = .int (z : Int) ∧ z < b) ?_ ?_
    rotate_left
    · intro R hk
      walk_at "s"
      refine if2 (fun h1 => ?_) (fun h1 => ?_)
      · walk_at "s"
        refine Or.inr ⟨_, rfl, ?_⟩
        walk_at "s"
        refine hk _ _ (Same.refl _) ?_
        by_cases hj : (i : Int) = (sz : Int) - 1
        · exact ⟨1, by rw [decide_eq_true hj]; rfl, by omega⟩
        · exact ⟨0, by rw [decide_eq_false hj]; rfl, by omega⟩
      · walk_at "s"
        exact hk (.int (u2 : Int)) _ (Same.refl _) ⟨u2, rfl, hub2⟩
    rintro v H7 s7 ⟨u3, rfl, hub3⟩
    have T := T.call s7
    dsimp only [List.set_cons_zero, List.set_cons_succ]
    walk_at "p"
    refine x_ifJ 9 (fun v => ∃ z : Nat, v = .int (z : Int) ∧ z < b) ?_ ?_
    rotate_left
    · intro R hk
      walk_at "s"
      refine if2 (fun h1 => ?_) (fun h1 => ?_)
      · walk_at "s"
        refine x_I (by decide) ?_
        walk_at "s"
        refine if2 (fun h1 => ?_) (fun h1 => ?_)
        · walk_at "s"
          exact hk _ _ (Same.refl _) ⟨0, rfl, by omega⟩
        · walk_at "s"
          exact hk (.int (u3 : Int)) _ (Same.refl _) ⟨u3, rfl, hub3⟩
      · walk_at "s"
        exact hk (.int (u3 : Int)) _ (Same.refl _) ⟨u3, rfl, hub3⟩
    rintro v H8 s8 ⟨u4, rfl, hub4⟩
    have T := T.call s8
    dsimp only [List.set_cons_zero, List.set_cons_succ]
    walk_at "p"
    refine x_app (by walk_at "fact") (by rw [iv_length]; omega) ?_
    have T := T.mut 0 rfl (o' := .lst (iv acc ++ [V.int (u4 : Int)]))
    rw [← iv_snoc] at T ⊢
    refine ⟨acc ++ [u4], _, _, _, rfl, hlt.append (AllLt.one hub4), ?_, T⟩
    rw [List.length_append, hlen]
    rfl
  · rintro σ' H' ⟨acc, left, y, z, rfl, hlt, hlen, T⟩
    have q := q (val b acc) (by
      rw [digits_val hb hlt]
      have := trim_length_le acc
      omega)
    unfold dig at q
    rw [digits_val hb hlt] at q
    walk_at "p"
    refine x_while (fun mm σ' H' => ∃ (d' : Addr) (r : List Nat), σ' = [some (.ref a), some (.int (k : Int)), some (.int (b : Int)), some (.int (m : Int)), some (.int (sz : Int)), some (.int way), some (.int left), some (.ref d'), y, z] ∧ r.length = mm ∧ r.length ≤ 1000 ∧ trim r = trim acc ∧ Trk H H' [(d', .lst (iv r))]) acc.length
      ⟨d, acc, rfl, rfl, by omega, rfl, T⟩ ?_
    rintro mm σ' H' ⟨d', r, rfl, hrl, hr1, hrt, T⟩
    walk_at "s"
    refine ⟨Nat.zero_le _, fun e he => ?_⟩
    have T := T.lay (o := .lst []) he
    refine x_neL (l := r) (m := []) (by walk_at "fact") (by walk_at "fact") ?_
    walk_at "s"
    by_cases hr0 : r = []
    · subst hr0
      refine ifF rfl ?_
      walk_at "s"
      refine q.go T 1 ?_
      rw [← hrt]
      rfl
    · obtain ⟨r', x, rfl⟩ : ∃ r' x, r = r' ++ [x] := ⟨r.dropLast, r.getLast hr0, (List.dropLast_concat_getLast hr0).symm⟩
      refine ifT (by rw [decide_eq_false hr0]; rfl) ?_
      walk_at "s"
      refine x_ix (v := .int (x : Int)) (by walk_at "fact") (by rw [iv_snoc]; exact atI_last _ _) ?_
      walk_at "s"
      by_cases hx : x = 0
      · subst hx
        refine ifT rfl ?_
        refine x_turn ?_
        walk_at "s"
        refine x_cut (xs := iv (r' ++ [0])) (by walk_at "fact") fun d2 hd2 => ?_
        have T := T.lay (o := .lst (cutV (iv (r' ++ [0])) none (some (-1)))) hd2
        have ec : cutV (iv (r' ++ [0])) none (some (-1)) = iv r' := by
          rw [iv_snoc]
          exact cut_last
        rw [ec] at T ⊢
        walk_at "s"
        rw [List.length_append] at hrl hr1
        refine ⟨r'.length, by rw [← hrl]; exact Nat.lt_succ_self _, d2, r', rfl, rfl, by omega, ?_, T.take 1⟩
        rw [trim_snoc_zero] at hrt
        exact hrt
      · refine ifF (decide_eq_false (by omega)) ?_
        walk_at "s"
        refine q.go T 1 ?_
        rw [← hrt, trim_snoc_pos hx]
        rfl

abbrev s__law_number : Stmt := topS 29
theorem sc__law_number : FnScope ["_law_base", "_law_row", "_law_total", "_law_figure"] ["_law_base", "_law_row"] (defScope s__law_number) := ⟨rfl, rfl, rfl, by decide +kernel, rfl, by decide +kernel, by decide +kernel⟩
def spLawNumber : Sp := fun vs H Q _ => ∃ (b n : Nat) (a : Addr), vs = [.int (b : Int), .ref a] ∧ (2 ≤ b ∧ b ≤ 1000000) ∧ H a = some (.lst (dig b n)) ∧ RetV (.int (n : Int)) H Q
theorem ok_law_number {P : Program} {w : World} {K : PySem.W.Frag} {mg : Str → Option Value} {base : Heap} (D : Dfn K mg "_law_number" s__law_number) (m_reversed : mg "reversed" = none) : Cal P w K mg base CX0 "_law_number" 1 ["_law_base", "_law_row"] spLawNumber := by
  refine cal0 D sc__law_number (fun _ _ _ _ _ _ us hl => match us, hl with | [_, _], _ => rfl) (fun vs H Q E h => ?_) (fun f cdv A outer s H vs Q E hr h => ?_)
  · obtain ⟨b, n, a, rfl, _⟩ := h
    rfl
  obtain ⟨b, n, a, rfl, hb, ha, q⟩ := h
  refine ⟨_, (pss_cons (ps_set (i := 2) sc__law_number.nd rfl (Or.inl rfl) pe_int)
      (pss_cons (ps_for PassesOwn.never rfl (pi_reversed (by rfl) m_reversed (pa_cons (pv 1) pa_nil)) (pg_name (i := 3) sc__law_number.nd rfl (Or.inl rfl)) (pss_one (ps_set (i := 2) sc__law_number.nd rfl (Or.inl rfl) (pe_op op_add (pe_op op_mul (pv 2) (pv 0)) (pv 3)))))
      (pss_one (ps_ret (pv 2))))), ?_⟩
  show tSeq _ _ _ [some (.int (b : Int)), some (.ref a), none, none] H
  have T := Trk.nil H
  walk_at "s"
  refine RT.for_Itv (xs := dig b n) (fun i σ' H' => (∃ y, σ' = [some (.int (b : Int)), some (.ref a), some (.int ((top b (digits b n) i : Nat) : Int)), y]) ∧ Trk H H' []) ⟨⟨none, by rw [top_zero]; rfl⟩, T⟩ ?_ ?_ ?_
  · rintro i σ' H' ⟨_, T⟩
    exact SqL.of (T.up ha)
  · rintro i x σ' H' hi hx ⟨⟨y, rfl⟩, T⟩
    obtain ⟨u, hu, rfl⟩ := iv_at hx
    have e1 : (dig b n).length = (digits b n).length := iv_length _
    rw [e1] at hu hi
    have e2 := top_succ b (digits b n) hu hi
    walk_at "s"
    refine x_I (Or.inr ⟨by omega, by omega⟩) ?_
    walk_at "s"
    rw [top_nat, ← e2]
    exact ⟨⟨_, rfl⟩, T⟩
  · rintro σ' H' ⟨⟨y, rfl⟩, T⟩
    have e1 : (dig b n).length = (digits b n).length := iv_length _
    rw [e1, top_all, val_digits hb.1]
    walk_at "s"
    exact q.go T

abbrev s__law_figures : Stmt := topS 30
theorem sc__law_figures : FnScope ["_law_base", "_law_number_here", "_law_row"] ["_law_base", "_law_number_here"] (defScope s__law_figures) := ⟨rfl, rfl, rfl, by decide +kernel, rfl, by decide +kernel, by decide +kernel⟩
def spLawFigures : Sp := fun vs H Q _ => ∃ (b n : Nat), vs = [.int (b : Int), .int (n : Int)] ∧ (2 ≤ b ∧ b ≤ 1000000) ∧ (digits b n).length ≤ 40000 ∧ RetL (dig b n) H Q
theorem ok_law_figures {P : Program} {w : World} {K : PySem.W.Frag} {mg : Str → Option Value} {base : Heap} (D : Dfn K mg "_law_figures" s__law_figures) : Cal P w K mg base CX0 "_law_figures" 1 ["_law_base", "_law_number_here"] spLawFigures := by
  refine cal0 D sc__law_figures (fun _ _ _ _ _ _ us hl => match us, hl with | [_, _], _ => rfl) (fun vs H Q E h => ?_) (fun f cdv A outer s H vs Q E hr h => ?_)
  · obtain ⟨b, n, rfl, _⟩ := h
    rfl
  obtain ⟨b, n, rfl, hb, hl, q⟩ := h
  refine ⟨_, (pss_cons (ps_set (i := 2) sc__law_figures.nd rfl (Or.inl rfl) (pe_lst pa_nil))
      (pss_cons (ps_while PassesOwn.never (pt_cmpR op_gt (pv 1) pe_int (nomark _)) (pss_cons (ps_expr (pe_bm PySem.F.plainAttrs_list PySem.F.slot_list_append PySem.F.type_list_append mt_append (pv 2) (pa_cons (pe_op op_mod (pv 1) (pv 0)) pa_nil)))
      (pss_one (ps_set (i := 1) sc__law_figures.nd rfl (Or.inl rfl) (pe_op op_fdiv (pv 1) (pv 0))))))
      (pss_one (ps_ret (pv 2))))), ?_⟩
  show tSeq _ _ _ [some (.int (b : Int)), some (.int (n : Int)), none] H
  walk_at "s"
  refine ⟨Nat.zero_le _, fun d hd => ?_⟩
  have T := (Trk.nil H).lay (o := .lst []) hd
  walk_at "s"
  refine x_while (fun m σ' H' => ∃ acc : List Nat, σ' = [some (.int (b : Int)), some (.int (m : Int)), some (.ref d)] ∧ acc ++ digits b m = digits b n ∧ Trk H H' [(d, .lst (iv acc))]) n ⟨[], rfl, rfl, T⟩ ?_
  rintro m σ' H' ⟨acc, rfl, hacc, T⟩
  have hal : acc.length ≤ 40000 := by
    have := congrArg List.length hacc
    rw [List.length_append] at this
    omega
  walk_at "s"
  refine if2 (fun h1 => ?_) (fun h1 => ?_)
  · have h2 : (0 : Int) < (m : Int) := of_decide_eq_true h1
    refine x_turn ?_
    walk_at "s"
    refine x_I (by omega) ?_
    rw [nat_mod_cast]
    walk_at "s"
    refine x_app (by walk_at "fact") (by rw [iv_length]; omega) ?_
    have T := T.mut 0 rfl (o' := .lst (iv acc ++ [V.int (m % b : Nat)]))
    walk_at "s"
    refine x_I ⟨by omega, by omega⟩ ?_
    rw [nat_div_cast]
    walk_at "s"
    refine ⟨m / b, Nat.div_lt_self (by omega) hb.1, acc ++ [m % b], rfl, ?_, ?_⟩
    · rw [← hacc, digits_pos hb.1 (by omega : 0 < m), List.append_assoc]
      rfl
    · rw [iv_snoc]
      exact T
  · have h2 : ¬ (0 : Int) < (m : Int) := of_decide_eq_false h1
    have h3 : m = 0 := by omega
    subst h3
    walk_at "s"
    refine q.go T 0 ?_
    rw [digits_zero, List.append_nil] at hacc
    rw [hacc]
    rfl

abbrev s__law_is_number : Stmt := topS 31
theorem sc__law_is_number : FnScope ["_law_found"] ["_law_found"] (defScope s__law_is_number) := ⟨rfl, rfl, rfl, by decide +kernel, rfl, by decide +kernel, by decide +kernel⟩
def spIsNumber : Sp := fun vs H Q _ => ∃ (i : Int), vs = [.int i] ∧ RetV (.bl true) H Q
theorem ok_law_is_number {P : Program} {w : World} {K : PySem.W.Frag} {mg : Str → Option Value} {base : Heap} (D : Dfn K mg "_law_is_number" s__law_is_number) (m_isinstance : mg "isinstance" = none) (m_int : mg "int" = none) : Cal P w K mg base CX0 "_law_is_number" 1 ["_law_found"] spIsNumber := by
  refine cal0 D sc__law_is_number (fun _ _ _ _ _ _ us hl => match us, hl with | [_], _ => rfl) (fun vs H Q E h => ?_) (fun f cdv A outer s H vs Q E hr h => ?_)
  · obtain ⟨i, rfl, _⟩ := h
    rfl
  obtain ⟨i, rfl, q⟩ := h
  refine ⟨_, (pss_cons (ps_if (PW.pt (pw_or (pt_cmpR op_isG (pv 0) pe_bl (nomark _)) (pw_or1 (pt_cmpR op_isG (pv 0) pe_bl (nomark _))))) (pss_one (ps_ret pe_bl)) pss_nil)
      (pss_one (ps_ret (pe_callB call_isi (by rfl) m_isinstance (by decide +kernel) (pa_cons (pv 0) (pa_cons (pe_bltn (v := .ty "int") (by rfl) m_int (by decide +kernel) rfl) pa_nil)))))), ?_⟩
  show tSeq _ _ _ [some (.int i)] H
  walk_at "s"
  refine ifF rfl ?_
  walk_at "s"
  refine ifF rfl ?_
  walk_at "s"
  refine x_isiI ?_
  exact q H (Same.refl H)

/-! ### trimmed -/
abbrev s_trimmed : Stmt := topS 13
theorem sc_trimmed : FnScope ["figures", "size"] ["figures"] (defScope s_trimmed) := ⟨rfl, rfl, rfl, by decide +kernel, rfl, by decide +kernel, by decide +kernel⟩
def spTrimmed : Sp := fun vs H Q _ => ∃ (a : Addr) (l : List Nat), vs = [.ref a] ∧ H a = some (.lst (iv l)) ∧ l.length ≤ 50000 ∧ RetL (iv (trim l)) H Q
theorem ok_trimmed {P : Program} {w : World} {K : PySem.W.Frag} {mg : Str → Option Value} {base : Heap} (D : Dfn K mg "trimmed" s_trimmed) (m_len : mg "len" = none) : Cal P w K mg base CX0 "trimmed" 1 ["figures"] spTrimmed := by
  refine cal0 D sc_trimmed (fun _ _ _ _ _ _ us hl => match us, hl with | [_], _ => rfl) (fun vs H Q E h => ?_) (fun f cdv A outer s H vs Q E hr h => ?_)
  · obtain ⟨a, l, rfl, _⟩ := h
    rfl
  obtain ⟨a, l, rfl, ha, hl, q⟩ := h
  refine ⟨_, (pss_cons (ps_set (i := 1) sc_trimmed.nd rfl (Or.inl rfl) (pe_callB call_len1 (by rfl) m_len PySem.boot_len (pa_cons (pv 0) pa_nil)))
      (pss_cons (ps_while PassesOwn.never (PW.pt (pw_and (pt_cmpR op_gt (pv 1) pe_int (nomark _)) (pw_and1 (pt_cmpR op_eq (pe_ix ix_list (pv 0) (pe_op op_sub (pv 1) pe_int) (fun _ _ => rfl)) pe_int (nomark _))))) (pss_one (ps_set (i := 1) sc_trimmed.nd rfl (Or.inl rfl) (pe_op op_sub (pv 1) pe_int))))
      (pss_one (ps_ret (pe_slice sl_list (pv 0) po_none (po_some (pv 1))))))), ?_⟩
  show tSeq _ _ _ [some (.ref a), none] H
  walk_at "s"
  refine x_while (fun m σ' H' => σ' = [some (.ref a), some (.int (m : Int))] ∧ H' = H ∧ m ≤ l.length ∧ trim (l.take m) = trim l) l.length ⟨?_, rfl, Nat.le_refl _, by rw [List.take_length]⟩ ?_
  · rw [iv_length]
  rintro m σ' H' ⟨rfl, rfl, hm, ht⟩
  walk_at "s"
  refine if2 (fun hb => ?_) (fun hb => ?_)
  · have h0 : (0 : Int) < (m : Int) := of_decide_eq_true hb
    obtain ⟨k, rfl⟩ : ∃ k, m = k + 1 := ⟨m - 1, by omega⟩
    have hk : k < l.length := by omega
    walk_at "s"
    have e1 : ((k + 1 : Nat) : Int) - 1 = (k : Int) := by omega
    rw [e1]
    refine x_ix ha (atI_nat (iv_get (List.getElem?_eq_getElem hk))) ?_
    walk_at "s"
    refine if2 (fun hb => ?_) (fun hb => ?_)
    · have hz : ((l[k] : Nat) : Int) = 0 := of_decide_eq_true hb
      refine x_turn ?_
      walk_at "s"
      refine ⟨k, by omega, by rw [e1], rfl, by omega, trim_take_of hk (by rw [List.getElem?_eq_getElem hk]; congr 1; omega) ht⟩
    · have hz : ¬ ((l[k] : Nat) : Int) = 0 := of_decide_eq_false hb
      walk_at "s"
      refine x_cut ha fun d hd => ?_
      refine q d _ hd (same_upd hd) ?_
      rw [upd_same, cut_to, ← iv_take, trim_take_end hk (List.getElem?_eq_getElem hk) (by omega) ht]
  · have h0 : ¬ (0 : Int) < (m : Int) := of_decide_eq_false hb
    have h1 : m = 0 := by omega
    subst h1
    walk_at "s"
    refine x_cut ha fun d hd => ?_
    refine q d _ hd (same_upd hd) ?_
    rw [upd_same, cut_to, ← iv_take, ← ht]
    rfl

/-! ### order -/
abbrev s_order : Stmt := topS 14
theorem sc_order : FnScope ["one", "other", "at"] ["one", "other"] (defScope s_order) := ⟨rfl, rfl, rfl, by decide +kernel, rfl, by decide +kernel, by decide +kernel⟩
def cmpI (n m : Nat) : Int := if n < m then -1 else if n = m then 0 else 1
def spOrder : Sp := fun vs H Q _ => ∃ (b n m : Nat) (a c : Addr), vs = [.ref a, .ref c] ∧ 2 ≤ b ∧ H a = some (.lst (dig b n)) ∧ H c = some (.lst (dig b m)) ∧ (digits b n).length ≤ 50000 ∧ (digits b m).length ≤ 50000 ∧ RetV (.int (cmpI n m)) H Q
theorem ok_order {P : Program} {w : World} {K : PySem.W.Frag} {mg : Str → Option Value} {base : Heap} (D : Dfn K mg "order" s_order) (m_len : mg "len" = none) (m_range : mg "range" = none) : Cal P w K mg base CX0 "order" 1 ["one", "other"] spOrder := by
  refine cal0 D sc_order (fun _ _ _ _ _ _ us hl => match us, hl with | [_, _], _ => rfl) (fun vs H Q E h => ?_) (fun f cdv A outer s H vs Q E hr h => ?_)
  · obtain ⟨b, n, m, a, c, rfl, _⟩ := h
    rfl
  obtain ⟨b, n, m, a, c, rfl, hb, ha, hc, hn, hm, q⟩ := h
  have la := digits_lt hb n
  have lc := digits_lt hb m
  have gt : m < n → cmpI n m = 1 := fun h => by unfold cmpI; rw [if_neg (by omega), if_neg (by omega)]
  have lt : n < m → cmpI n m = -1 := fun h => by unfold cmpI; rw [if_pos h]
  refine ⟨_, (pss_cons (ps_if (pt_cmpR op_ne (pe_callB call_len1 (by rfl) m_len PySem.boot_len (pa_cons (pv 0) pa_nil)) (pe_callB call_len1 (by rfl) m_len PySem.boot_len (pa_cons (pv 1) pa_nil)) (nomark _)) (pss_one (ps_ret (pe_ifExp (pt_cmpR op_gt (pe_callB call_len1 (by rfl) m_len PySem.boot_len (pa_cons (pv 0) pa_nil)) (pe_callB call_len1 (by rfl) m_len PySem.boot_len (pa_cons (pv 1) pa_nil)) (nomark _)) pe_int (pe_un un_neg pe_int)))) pss_nil)
      (pss_cons (ps_for PassesOwn.never rfl (pi_range3 (by rfl) m_range (pa_cons (pe_op op_sub (pe_callB call_len1 (by rfl) m_len PySem.boot_len (pa_cons (pv 0) pa_nil)) pe_int) (pa_cons (pe_un un_neg pe_int) (pa_cons (pe_un un_neg pe_int) pa_nil)))) (pg_name (i := 2) sc_order.nd rfl (Or.inl rfl)) (pss_one (ps_if (pt_cmpR op_ne (pe_ix ix_list (pv 0) (pv 2) (fun _ _ => rfl)) (pe_ix ix_list (pv 1) (pv 2) (fun _ _ => rfl)) (nomark _)) (pss_one (ps_ret (pe_ifExp (pt_cmpR op_gt (pe_ix ix_list (pv 0) (pv 2) (fun _ _ => rfl)) (pe_ix ix_list (pv 1) (pv 2) (fun _ _ => rfl)) (nomark _)) pe_int (pe_un un_neg pe_int)))) pss_nil)))
      (pss_one (ps_ret pe_int)))), ?_⟩
  show tSeq _ _ _ [some (.ref a), some (.ref c), none] H
  walk_at "s"
  have e1 : (dig b n).length = (digits b n).length := iv_length _
  have e2 : (dig b m).length = (digits b m).length := iv_length _
  rw [e1, e2]
  refine if2 (fun h1 => ?_) (fun h1 => ?_)
  · have h2 : ¬ ((digits b n).length : Int) = ((digits b m).length : Int) := fun z => by
      rw [decide_eq_true z] at h1
      cases h1
    walk_at "s"
    rw [e1, e2]
    refine if2 (fun h3 => ?_) (fun h3 => ?_)
    · have h4 : ((digits b m).length : Int) < ((digits b n).length : Int) := of_decide_eq_true h3
      walk_at "s"
      have h5 : m < n := by
        rcases Nat.lt_or_ge m n with z | z
        · exact z
        · have := digits_len_mono hb z
          omega
      rw [gt h5] at q
      exact q H (Same.refl H)
    · have h4 : ¬ ((digits b m).length : Int) < ((digits b n).length : Int) := of_decide_eq_false h3
      walk_at "s"
      have h5 : n < m := by
        rcases Nat.lt_or_ge n m with z | z
        · exact z
        · have := digits_len_mono hb z
          omega
      rw [lt h5] at q
      exact q H (Same.refl H)
  · have h2 : (digits b n).length = (digits b m).length := by
      by_cases z : ((digits b n).length : Int) = ((digits b m).length : Int)
      · omega
      · rw [decide_eq_false z] at h1
        cases h1
    walk_at "s"
    rw [e1]
    refine x_rdown (by omega) ?_
    have e3 : (((digits b n).length : Int) - 1 + 1).toNat = (digits b n).length := by omega
    rw [e3]
    refine for_rangeC (fun i σ' H' => (∃ y, σ' = [some (.ref a), some (.ref c), y]) ∧ H' = H ∧ (digits b n).drop ((digits b n).length - i) = (digits b m).drop ((digits b n).length - i)) ⟨⟨none, rfl⟩, rfl, ?_⟩ ?_ ?_
    · rw [Nat.sub_zero, List.drop_length, h2, List.drop_length]
    · rintro i σ' H' hi ⟨⟨y, rfl⟩, rfl, hd⟩
      have h6 : ((digits b n).length : Int) - 1 + (i : Int) * -1 = (((digits b n).length - 1 - i : Nat) : Int) := by omega
      rw [h6]
      have k1 : (digits b n).length - 1 - i < (digits b n).length := by omega
      have k2 : (digits b n).length - 1 - i < (digits b m).length := by omega
      have k3 : (digits b n).length - 1 - i + 1 = (digits b n).length - i := by omega
      have g1 := List.getElem?_eq_getElem k1
      have g2 := List.getElem?_eq_getElem k2
      generalize (digits b n)[(digits b n).length - 1 - i] = x at *
      generalize (digits b m)[(digits b n).length - 1 - i] = z at *
      walk_at "s"
      refine x_ix ha (atI_nat (iv_get g1)) ?_
      walk_at "s"
      refine x_ix hc (atI_nat (iv_get g2)) ?_
      walk_at "s"
      refine if2 (fun h7 => ?_) (fun h7 => ?_)
      · have h8 : x ≠ z := fun e => by
          rw [e, decide_eq_true rfl] at h7
          cases h7
        walk_at "s"
        refine x_ix ha (atI_nat (iv_get g1)) ?_
        walk_at "s"
        refine x_ix hc (atI_nat (iv_get g2)) ?_
        walk_at "s"
        rw [← k3] at hd
        refine if2 (fun h9 => ?_) (fun h9 => ?_)
        · have h10 : (z : Int) < (x : Int) := of_decide_eq_true h9
          walk_at "s"
          have := cmp_top hb lc la k2 k1 hd.symm g2 g1 (by omega)
          rw [val_digits hb, val_digits hb] at this
          rw [gt this] at q
          exact q _ (Same.refl _)
        · have h10 : ¬ (z : Int) < (x : Int) := of_decide_eq_false h9
          walk_at "s"
          have := cmp_top hb la lc k1 k2 hd g1 g2 (by omega)
          rw [val_digits hb, val_digits hb] at this
          rw [lt this] at q
          exact q _ (Same.refl _)
      · have h8 : x = z := by
          by_cases e : (x : Int) = (z : Int)
          · omega
          · rw [decide_eq_false e] at h7
            cases h7
        walk_at "s"
        refine ⟨⟨_, rfl⟩, rfl, ?_⟩
        have k4 : (digits b n).length - (i + 1) = (digits b n).length - 1 - i := by omega
        rw [k4, List.drop_eq_getElem_cons k1, List.drop_eq_getElem_cons k2, k3, hd]
        rw [List.getElem?_eq_getElem k1] at g1
        rw [List.getElem?_eq_getElem k2] at g2
        rw [Option.some.inj g1, Option.some.inj g2, h8]
    · rintro σ' H' ⟨⟨y, rfl⟩, rfl, hd⟩
      walk_at "s"
      rw [Nat.sub_self, List.drop_zero, List.drop_zero] at hd
      have : n = m := digits_inj hb hd
      have h9 : cmpI n m = 0 := by unfold cmpI; rw [if_neg (by omega), if_pos this]
      rw [h9] at q
      exact q _ (Same.refl _)

/-! ### figure_at -/
abbrev s_figure_at : Stmt := topS 16
theorem sc_figure_at : FnScope ["row", "at"] ["row", "at"] (defScope s_figure_at) := ⟨rfl, rfl, rfl, by decide +kernel, rfl, by decide +kernel, by decide +kernel⟩
def spFigureAt : Sp := fun vs H Q _ => ∃ (a : Addr) (l : List Nat) (i : Nat), vs = [.ref a, .int (i : Int)] ∧ H a = some (.lst (iv l)) ∧ RetV (.int ((l.getD i 0 : Nat) : Int)) H Q
theorem ok_figure_at {P : Program} {w : World} {K : PySem.W.Frag} {mg : Str → Option Value} {base : Heap} (D : Dfn K mg "figure_at" s_figure_at) (m_len : mg "len" = none) : Cal P w K mg base CX0 "figure_at" 1 ["row", "at"] spFigureAt := by
  refine cal0 D sc_figure_at (fun _ _ _ _ _ _ us hl => match us, hl with | [_, _], _ => rfl) (fun vs H Q E h => ?_) (fun f cdv A outer s H vs Q E hr h => ?_)
  · obtain ⟨a, l, i, rfl, _⟩ := h
    rfl
  obtain ⟨a, l, i, rfl, ha, q⟩ := h
  refine ⟨_, (pss_one (ps_ret (pe_ifExp (pt_cmpR op_lt (pv 1) (pe_callB call_len1 (by rfl) m_len PySem.boot_len (pa_cons (pv 0) pa_nil)) (nomark _)) (pe_ix ix_list (pv 0) (pv 1) (fun _ _ => rfl)) pe_int))), ?_⟩
  show tRet _ _ [some (.ref a), some (.int (i : Int))] H
  walk_at "s"
  refine if2 (fun h1 => ?_) (fun h1 => ?_)
  · have h2 : (i : Int) < ((iv l).length : Int) := of_decide_eq_true h1
    rw [iv_length] at h2
    have g := List.getElem?_eq_getElem (l := l) (i := i) (by omega)
    walk_at "s"
    refine x_ix ha (atI_nat (iv_get g)) ?_
    rw [List.getD_eq_getElem?_getD, g] at q
    exact q H (Same.refl H)
  · have h2 : ¬ (i : Int) < ((iv l).length : Int) := of_decide_eq_false h1
    rw [iv_length] at h2
    walk_at "s"
    rw [List.getD_eq_getElem?_getD, List.getElem?_eq_none (by omega)] at q
    exact q H (Same.refl H)

/-! ### less_by -/
abbrev s_less_by : Stmt := topS 17
theorem sc_less_by : FnScope ["base", "one", "other", "found", "owed", "at", "left"] ["base", "one", "other"] (defScope s_less_by) := ⟨rfl, rfl, rfl, by decide +kernel, rfl, by decide +kernel, by decide +kernel⟩
def spLessBy : Sp := fun vs H Q _ => ∃ (b n m : Nat) (a c : Addr), vs = [.int (b : Int), .ref a, .ref c] ∧ (2 ≤ b ∧ b ≤ 1000000) ∧ H a = some (.lst (dig b n)) ∧ H c = some (.lst (dig b m)) ∧ (digits b n).length ≤ 40000 ∧ m ≤ n ∧ RetL (dig b (n - m)) H Q
theorem ok_less_by {P : Program} {w : World} {K : PySem.W.Frag} {mg : Str → Option Value} {base : Heap} (D : Dfn K mg "less_by" s_less_by) (m_len : mg "len" = none) (m_range : mg "range" = none)
    (C_figure_at : Cal P w K mg base CX0 "figure_at" 1 ["row", "at"] spFigureAt) (C_trimmed : Cal P w K mg base CX0 "trimmed" 1 ["figures"] spTrimmed) : Cal P w K mg base CX0 "less_by" 2 ["base", "one", "other"] spLessBy := by
  refine cal0 D sc_less_by (fun _ _ _ _ _ _ us hl => match us, hl with | [_, _, _], _ => rfl) (fun vs H Q E h => ?_) (fun f cdv A outer s H vs Q E hr h => ?_)
  · obtain ⟨b, n, m, a, c, rfl, _⟩ := h
    rfl
  obtain ⟨b, n, m, a, c, rfl, ⟨hb, hb6⟩, ha, hc, hn, hm, q⟩ := h
  have la := digits_lt hb n
  have lc := digits_lt hb m
  refine ⟨_, (pss_cons (ps_set (i := 3) sc_less_by.nd rfl (Or.inl rfl) (pe_lst pa_nil))
      (pss_cons (ps_set (i := 4) sc_less_by.nd rfl (Or.inl rfl) pe_int)
      (pss_cons (ps_for PassesOwn.never rfl (pi_range1 (by rfl) m_range (pa_cons (pe_callB call_len1 (by rfl) m_len PySem.boot_len (pa_cons (pv 1) pa_nil)) pa_nil)) (pg_name (i := 5) sc_less_by.nd rfl (Or.inl rfl)) (pss_cons (ps_set (i := 6) sc_less_by.nd rfl (Or.inl rfl) (pe_op op_sub (pe_op op_sub (pe_ix ix_list (pv 1) (pv 5) (fun _ _ => rfl)) (pc C_figure_at hr (pa_cons (pv 2) (pa_cons (pv 5) pa_nil)))) (pv 4)))
      (pss_cons (ps_set (i := 4) sc_less_by.nd rfl (Or.inl rfl) pe_int)
      (pss_cons (ps_if (pt_cmpR op_lt (pv 6) pe_int (nomark _)) (pss_cons (ps_set (i := 6) sc_less_by.nd rfl (Or.inl rfl) (pe_op op_add (pv 6) (pv 0)))
      (pss_one (ps_set (i := 4) sc_less_by.nd rfl (Or.inl rfl) pe_int))) pss_nil)
      (pss_one (ps_expr (pe_bm PySem.F.plainAttrs_list PySem.F.slot_list_append PySem.F.type_list_append mt_append (pv 3) (pa_cons (pv 6) pa_nil))))))))
      (pss_one (ps_ret (pc C_trimmed hr (pa_cons (pv 3) pa_nil))))))), ?_⟩
  show tSeq _ _ _ [some (.int (b : Int)), some (.ref a), some (.ref c), none, none, none, none] H
  walk_at "s"
  refine ⟨Nat.zero_le _, fun d hd => ?_⟩
  have T := (Trk.nil H).lay (o := .lst []) hd
  walk_at "s"
  have e1 : (dig b n).length = (digits b n).length := iv_length _
  rw [e1]
  refine x_r1 (by omega) ?_
  rw [Int.toNat_natCast]
  refine for_range (fun i σ' H' => ∃ acc owed y z, σ' = [some (.int (b : Int)), some (.ref a), some (.ref c), some (.ref d), some (.int ((owed : Nat) : Int)), y, z] ∧ DifI b (digits b n) (digits b m) i acc owed ∧ Trk H H' [(d, .lst (iv acc))])
    ⟨[], 0, none, none, rfl, DifI.start _ _ _, T⟩ ?_ ?_
  · rintro i σ' H' hi ⟨acc, owed, y, z, rfl, S, T⟩
    rw [Int.zero_add]
    have g := List.getElem?_eq_getElem hi
    have S0 := fun z => S.step0 (z := z) hb la lc
    have S1 := fun z => S.step1 (z := z) hb la lc
    have hu : (digits b n).getD i 0 = (digits b n)[i] := by rw [List.getD_eq_getElem?_getD, g]; rfl
    rw [hu] at S0 S1
    have hx : (digits b n)[i] < b := la.get g
    have hy := getD_lt (by omega) lc i
    have ho := S.ov
    generalize (digits b n)[i] = x at *
    walk_at "s"
    refine x_ix (T.up ha) (atI_nat (iv_get g)) ?_
    walk_at "s"
    refine ⟨_, _, i, rfl, T.up hc, fun H1 s1 => ?_⟩
    have T := T.call s1
    generalize (digits b m).getD i 0 = v at *
    walk_at "s"
    have hz : acc.length < 40000 := by rw [S.len]; omega
    refine if2 (fun h1 => ?_) (fun h1 => ?_)
    · have h2 : (x : Int) - (v : Int) - (owed : Int) < 0 := of_decide_eq_true h1
      walk_at "s"
      obtain ⟨z, hz⟩ : ∃ z : Nat, (x : Int) - (v : Int) - (owed : Int) + (b : Int) = (z : Int) := ⟨((x : Int) - (v : Int) - (owed : Int) + (b : Int)).toNat, by omega⟩
      rw [hz]
      refine x_app (by walk_at "fact") (by rw [iv_length]; omega) ?_
      have T := T.mut 0 rfl (o' := .lst (iv acc ++ [V.int (z : Int)]))
      walk_at "s"
      refine ⟨_, 1, _, _, rfl, S1 z (by omega) (by omega), ?_⟩
      rw [iv_snoc]
      exact T
    · have h2 : ¬ (x : Int) - (v : Int) - (owed : Int) < 0 := of_decide_eq_false h1
      walk_at "s"
      obtain ⟨z, hz⟩ : ∃ z : Nat, (x : Int) - (v : Int) - (owed : Int) = (z : Int) := ⟨((x : Int) - (v : Int) - (owed : Int)).toNat, by omega⟩
      rw [hz]
      refine x_app (by walk_at "fact") (by rw [iv_length]; omega) ?_
      have T := T.mut 0 rfl (o' := .lst (iv acc ++ [V.int (z : Int)]))
      walk_at "s"
      refine ⟨_, 0, _, _, rfl, S0 z (by omega), ?_⟩
      rw [iv_snoc]
      exact T
  · rintro σ' H' ⟨acc, owed, y, z, rfl, S, T⟩
    walk_at "s"
    refine ⟨_, acc, rfl, by walk_at "fact", by rw [S.len]; omega, fun p H1 hp s1 h1 => ?_⟩
    have T := T.add s1 hp h1
    refine q.go T 0 ?_
    rw [S.done hb hm]
    rfl

/-! ### times -/
abbrev s_times : Stmt := topS 18
theorem sc_times : FnScope ["base", "row", "figure", "found", "over", "own", "total"] ["base", "row", "figure"] (defScope s_times) := ⟨rfl, rfl, rfl, by decide +kernel, rfl, by decide +kernel, by decide +kernel⟩
def spTimes : Sp := fun vs H Q _ => ∃ (b n f : Nat) (a : Addr), vs = [.int (b : Int), .ref a, .int (f : Int)] ∧ (2 ≤ b ∧ b ≤ 1000000) ∧ H a = some (.lst (dig b n)) ∧ f < b ∧ (digits b n).length ≤ 40000 ∧ RetL (dig b (n * f)) H Q
theorem ok_times {P : Program} {w : World} {K : PySem.W.Frag} {mg : Str → Option Value} {base : Heap} (D : Dfn K mg "times" s_times)
    (C_trimmed : Cal P w K mg base CX0 "trimmed" 1 ["figures"] spTrimmed) : Cal P w K mg base CX0 "times" 2 ["base", "row", "figure"] spTimes := by
  refine cal0 D sc_times (fun _ _ _ _ _ _ us hl => match us, hl with | [_, _, _], _ => rfl) (fun vs H Q E h => ?_) (fun f cdv A outer s H vs Q E hr h => ?_)
  · obtain ⟨b, n, f, a, rfl, _⟩ := h
    rfl
  obtain ⟨b, n, fg, a, rfl, ⟨hb, hb6⟩, ha, hf, hn, q⟩ := h
  have la := digits_lt hb n
  refine ⟨_, (pss_cons (ps_set (i := 3) sc_times.nd rfl (Or.inl rfl) (pe_lst pa_nil))
      (pss_cons (ps_set (i := 4) sc_times.nd rfl (Or.inl rfl) pe_int)
      (pss_cons (ps_for PassesOwn.never rfl (pi_list (pv 1)) (pg_name (i := 5) sc_times.nd rfl (Or.inl rfl)) (pss_cons (ps_set (i := 6) sc_times.nd rfl (Or.inl rfl) (pe_op op_add (pe_op op_mul (pv 5) (pv 2)) (pv 4)))
      (pss_cons (ps_expr (pe_bm PySem.F.plainAttrs_list PySem.F.slot_list_append PySem.F.type_list_append mt_append (pv 3) (pa_cons (pe_op op_mod (pv 6) (pv 0)) pa_nil)))
      (pss_one (ps_set (i := 4) sc_times.nd rfl (Or.inl rfl) (pe_op op_fdiv (pv 6) (pv 0)))))))
      (pss_cons (ps_if (pt_cmpR op_gt (pv 4) pe_int (nomark _)) (pss_one (ps_expr (pe_bm PySem.F.plainAttrs_list PySem.F.slot_list_append PySem.F.type_list_append mt_append (pv 3) (pa_cons (pv 4) pa_nil)))) pss_nil)
      (pss_one (ps_ret (pc C_trimmed hr (pa_cons (pv 3) pa_nil)))))))), ?_⟩
  show tSeq _ _ _ [some (.int (b : Int)), some (.ref a), some (.int (fg : Int)), none, none, none, none] H
  walk_at "s"
  refine ⟨Nat.zero_le _, fun d hd => ?_⟩
  have T := (Trk.nil H).lay (o := .lst []) hd
  walk_at "s"
  refine for_list (xs := dig b n) (fun i σ' H' => ∃ acc over y z, σ' = [some (.int (b : Int)), some (.ref a), some (.int (fg : Int)), some (.ref d), some (.int ((over : Nat) : Int)), y, z] ∧ MulI b (digits b n) fg i acc over ∧ Trk H H' [(d, .lst (iv acc))])
    ⟨[], 0, none, none, rfl, MulI.start hb _ _, T⟩ ?_ ?_ ?_
  · rintro i σ' H' hi ⟨acc, over, y, z, rfl, S, T⟩
    exact SqL.of (T.up ha)
  · rintro i x σ' H' hx ⟨acc, over, y, z, rfl, S, T⟩
    obtain ⟨u, hu, rfl⟩ := iv_at hx
    have S' := S.step hb la hf hu
    have hul : u < b := la.get hu
    have ho := S.ov
    have hz : acc.length < 40000 := by
      rw [S.len]
      have := (List.getElem?_eq_some_iff.mp hu).1
      omega
    walk_at "s"
    refine x_I (Or.inl ⟨by omega, by omega⟩) ?_
    walk_at "s"
    have e4 : (u : Int) * (fg : Int) + (over : Int) = ((u * fg + over : Nat) : Int) := by
      rw [Int.natCast_add, Int.natCast_mul]
    rw [e4]
    refine x_I (by omega) ?_
    rw [nat_mod_cast]
    walk_at "s"
    refine x_app (by walk_at "fact") (by rw [iv_length]; omega) ?_
    have T := T.mut 0 rfl (o' := .lst (iv acc ++ [V.int ((u * fg + over) % b : Nat)]))
    walk_at "s"
    refine x_I ⟨by omega, by omega⟩ ?_
    rw [nat_div_cast]
    walk_at "s"
    refine ⟨_, _, _, _, rfl, S', ?_⟩
    rw [iv_snoc]
    exact T
  · rintro σ' H' ⟨acc, over, y, z, rfl, S, T⟩
    have e1 : (dig b n).length = (digits b n).length := iv_length _
    rw [e1] at S
    have R := S.done hb
    walk_at "s"
    refine if2 (fun h1 => ?_) (fun h1 => ?_)
    · have h2 : (0 : Int) < (over : Int) := of_decide_eq_true h1
      rw [if_pos (by omega)] at R
      walk_at "s"
      refine x_app (by walk_at "fact") (by rw [iv_length, S.len]; omega) ?_
      have T := T.mut 0 rfl (o' := .lst (iv acc ++ [V.int (over : Int)]))
      rw [← iv_snoc] at T
      rw [← iv_snoc]
      walk_at "s"
      refine ⟨_, _, rfl, by walk_at "fact", by rw [List.length_append, S.len]; show _ + 1 ≤ _; omega, fun p H1 hp s1 h1 => ?_⟩
      have T := T.add s1 hp h1
      refine q.go T 0 ?_
      rw [R]
      rfl
    · have h2 : ¬ (0 : Int) < (over : Int) := of_decide_eq_false h1
      rw [if_neg (by omega)] at R
      walk_at "s"
      refine ⟨_, _, rfl, by walk_at "fact", by rw [S.len]; omega, fun p H1 hp s1 h1 => ?_⟩
      have T := T.add s1 hp h1
      refine q.go T 0 ?_
      rw [R]
      rfl

/-! ### top_of -/
abbrev s_top_of : Stmt := topS 20
theorem sc_top_of : FnScope ["base", "row", "at", "total", "figure"] ["base", "row", "at"] (defScope s_top_of) := ⟨rfl, rfl, rfl, by decide +kernel, rfl, by decide +kernel, by decide +kernel⟩
def spTopOf : Sp := fun vs H Q _ => ∃ (b n k : Nat) (a : Addr), vs = [.int (b : Int), .ref a, .int (k : Int)] ∧ (2 ≤ b ∧ b ≤ 1000000) ∧ H a = some (.lst (dig b n)) ∧ RetV (.int ((n / b ^ k : Nat) : Int)) H Q
theorem ok_top_of {P : Program} {w : World} {K : PySem.W.Frag} {mg : Str → Option Value} {base : Heap} (D : Dfn K mg "top_of" s_top_of) (m_reversed : mg "reversed" = none) : Cal P w K mg base CX0 "top_of" 1 ["base", "row", "at"] spTopOf := by
  refine cal0 D sc_top_of (fun _ _ _ _ _ _ us hl => match us, hl with | [_, _, _], _ => rfl) (fun vs H Q E h => ?_) (fun f cdv A outer s H vs Q E hr h => ?_)
  · obtain ⟨b, n, k, a, rfl, _⟩ := h
    rfl
  obtain ⟨b, n, k, a, rfl, hb, ha, q⟩ := h
  refine ⟨_, (pss_cons (ps_set (i := 3) sc_top_of.nd rfl (Or.inl rfl) pe_int)
      (pss_cons (ps_for PassesOwn.never rfl (pi_reversed (by rfl) m_reversed (pa_cons (pe_slice sl_list (pv 1) (po_some (pv 2)) po_none) pa_nil)) (pg_name (i := 4) sc_top_of.nd rfl (Or.inl rfl)) (pss_one (ps_set (i := 3) sc_top_of.nd rfl (Or.inl rfl) (pe_op op_add (pe_op op_mul (pv 3) (pv 0)) (pv 4)))))
      (pss_one (ps_ret (pv 3))))), ?_⟩
  show tSeq _ _ _ [some (.int (b : Int)), some (.ref a), some (.int (k : Int)), none, none] H
  have T := Trk.nil H
  walk_at "s"
  refine t_cut T (T.up ha) fun d T => ?_
  rw [cut_from, show (dig b n).drop k = dig b (n / b ^ k) by unfold dig; rw [← digits_drop hb.1, iv_drop]] at T ⊢
  generalize n / b ^ k = m at *
  walk_at "s"
  refine RT.for_Itv (xs := dig b m) (fun i σ' H' => (∃ y, σ' = [some (.int (b : Int)), some (.ref a), some (.int (k : Int)), some (.int ((top b (digits b m) i : Nat) : Int)), y]) ∧ Trk H H' [(d, .lst (dig b m))]) ⟨⟨none, by rw [top_zero]; rfl⟩, T⟩ ?_ ?_ ?_
  · rintro i σ' H' ⟨_, T⟩
    exact SqL.of (T.get (i := 0) rfl)
  · rintro i x σ' H' hi hx ⟨⟨y, rfl⟩, T⟩
    obtain ⟨u, hu, rfl⟩ := iv_at hx
    have e1 : (dig b m).length = (digits b m).length := iv_length _
    rw [e1] at hu hi
    have e2 := top_succ b (digits b m) hu hi
    walk_at "s"
    refine x_I (Or.inr ⟨by omega, by omega⟩) ?_
    walk_at "s"
    rw [top_nat, ← e2]
    exact ⟨⟨_, rfl⟩, T⟩
  · rintro σ' H' ⟨⟨y, rfl⟩, T⟩
    have e1 : (dig b m).length = (digits b m).length := iv_length _
    rw [e1, top_all, val_digits hb.1]
    walk_at "s"
    exact q.go T

/-! ### often -/
abbrev s_often : Stmt := topS 21
theorem sc_often : FnScope ["base", "row", "other", "at", "top", "lead", "low", "high", "middle"] ["base", "row", "other"] (defScope s_often) := ⟨rfl, rfl, rfl, by decide +kernel, rfl, by decide +kernel, by decide +kernel⟩
def spOften : Sp := fun vs H Q _ => ∃ (b n m : Nat) (a c : Addr), vs = [.int (b : Int), .ref a, .ref c] ∧ (2 ≤ b ∧ b ≤ 1000000) ∧ H a = some (.lst (dig b n)) ∧ H c = some (.lst (dig b m)) ∧ 0 < m ∧ n < m * b ∧ (digits b n).length ≤ 30000 ∧ (digits b m).length ≤ 30000 ∧ RetV (.int ((n / m : Nat) : Int)) H Q
theorem ok_often {P : Program} {w : World} {K : PySem.W.Frag} {mg : Str → Option Value} {base : Heap} (D : Dfn K mg "often" s_often) (m_len : mg "len" = none) (m_max : mg "max" = none) (m_min : mg "min" = none)
    (C_top_of : Cal P w K mg base CX0 "top_of" 1 ["base", "row", "at"] spTopOf) (C_order : Cal P w K mg base CX0 "order" 1 ["one", "other"] spOrder) (C_times : Cal P w K mg base CX0 "times" 2 ["base", "row", "figure"] spTimes) : Cal P w K mg base CX0 "often" 3 ["base", "row", "other"] spOften := by
  refine cal0 D sc_often (fun _ _ _ _ _ _ us hl => match us, hl with | [_, _, _], _ => rfl) (fun vs H Q E h => ?_) (fun f cdv A outer s H vs Q E hr h => ?_)
  · obtain ⟨b, n, m, a, c, rfl, _⟩ := h
    rfl
  obtain ⟨b, n, m, a, c, rfl, hb, ha, hc, hm, hnm, hn, hml, q⟩ := h
  obtain ⟨ht, hlead, hpm⟩ := tops_small hb.1 hb.2 hm hnm
  have ho := often_start hb.1 hm hnm hpm
  have hqb : n / m < b := Nat.div_lt_of_lt_mul hnm
  refine ⟨_, (pss_cons (ps_set (i := 3) sc_often.nd rfl (Or.inl rfl) (pe_callB (call_max2' rfl) (by rfl) m_max (by decide +kernel) (pa_cons (pe_op op_sub (pe_callB call_len1 (by rfl) m_len PySem.boot_len (pa_cons (pv 2) pa_nil)) pe_int) (pa_cons pe_int pa_nil))))
      (pss_cons (ps_par (i := 4) (j := 5) rfl sc_often.nd rfl rfl (by decide) rfl rfl (pa_cons (pc C_top_of hr (pa_cons (pv 0) (pa_cons (pv 1) (pa_cons (pv 3) pa_nil)))) (pa_cons (pc C_top_of hr (pa_cons (pv 0) (pa_cons (pv 2) (pa_cons (pv 3) pa_nil)))) pa_nil)) (by rfl))
      (pss_cons (ps_par (i := 6) (j := 7) rfl sc_often.nd rfl rfl (by decide) rfl rfl (pa_cons (pe_op op_fdivW (pv 4) (pe_op op_add (pv 5) pe_int)) (pa_cons (pe_callB (call_min2' rfl) (by rfl) m_min (by decide +kernel) (pa_cons (pe_op op_sub (pv 0) pe_int) (pa_cons (pe_op op_fdivW (pv 4) (pv 5)) pa_nil))) pa_nil)) (by rfl))
      (pss_cons (ps_while PassesOwn.never (pt_cmpR op_lt (pv 6) (pv 7) (nomark _)) (pss_cons (ps_set (i := 8) sc_often.nd rfl (Or.inl rfl) (pe_op op_fdiv (pe_op op_add (pe_op op_add (pv 6) (pv 7)) pe_int) pe_int))
      (pss_one (ps_if (pt_cmpR op_gt (pc C_order hr (pa_cons (pc C_times hr (pa_cons (pv 0) (pa_cons (pv 2) (pa_cons (pv 8) pa_nil)))) (pa_cons (pv 1) pa_nil))) pe_int (nomark _)) (pss_one (ps_set (i := 7) sc_often.nd rfl (Or.inl rfl) (pe_op op_sub (pv 8) pe_int))) (pss_one (ps_set (i := 6) sc_often.nd rfl (Or.inl rfl) (pv 8)))))))
      (pss_one (ps_ret (pv 6))))))), ?_⟩
  show tSeq _ _ _ [some (.int (b : Int)), some (.ref a), some (.ref c), none, none, none, none, none, none] H
  have T := Trk.nil H
  walk_at "s"
  have e1 : max (((dig b m).length : Int) - 2) 0 = (((digits b m).length - 2 : Nat) : Int) := by
    have : (dig b m).length = (digits b m).length := iv_length _
    omega
  rw [e1]
  generalize (digits b m).length - 2 = k at *
  refine ⟨_, _, _, _, rfl, hb, T.up ha, t_retV T fun H1 T => ?_⟩
  walk_at "s"
  refine ⟨_, _, _, _, rfl, hb, T.up hc, t_retV T fun H2 T => ?_⟩
  walk_at "s"
  generalize n / b ^ k = tn at *
  generalize m / b ^ k = tm at *
  refine x_I (wide_div (b := 42) (by omega) (by omega) (by decide) (by decide)) ?_
  walk_at "s"
  refine x_I (wide_div (b := 42) (by omega) (by omega) (by decide) (by decide)) ?_
  walk_at "s"
  have e2 : (tn : Int) / ((tm : Int) + 1) = ((tn / (tm + 1) : Nat) : Int) := by
    rw [← nat_div_cast]
    rfl
  have e3 : min ((b : Int) - 1) ((tn : Int) / (tm : Int)) = ((min (b - 1) (tn / tm) : Nat) : Int) := by
    rw [nat_div_cast]
    omega
  rw [e2, e3]
  have hmb : min (b - 1) (tn / tm) < b := by omega
  generalize tn / (tm + 1) = low at *
  generalize min (b - 1) (tn / tm) = high at *
  refine x_while (fun j σ' H' => ∃ (low high : Nat) (y : Option V), σ' = [some (.int (b : Int)), some (.ref a), some (.ref c), some (.int (k : Int)), some (.int (tn : Int)), some (.int (tm : Int)), some (.int (low : Int)), some (.int (high : Int)), y] ∧ j = high - low ∧ low ≤ n / m ∧ n / m ≤ high ∧ high < b ∧ Trk H H' []) (high - low) ⟨low, high, none, rfl, rfl, ho.1, ho.2.1, hmb, T⟩ ?_
  rintro j σ' H' ⟨low, high, y, rfl, rfl, hl, hh, hhb, T⟩
  walk_at "s"
  refine if2 (fun h1 => ?_) (fun h1 => ?_)
  · have h2 : (low : Int) < (high : Int) := of_decide_eq_true h1
    refine x_turn ?_
    walk_at "s"
    refine x_I ⟨by decide, by decide⟩ ?_
    have e4 : ((low : Int) + (high : Int) + 1) / 2 = (((low + high + 1) / 2 : Nat) : Int) := by omega
    rw [e4]
    have e5 : low < (low + high + 1) / 2 ∧ (low + high + 1) / 2 ≤ high := by omega
    generalize (low + high + 1) / 2 = mid at *
    walk_at "s"
    refine ⟨_, _, _, _, rfl, hb, T.up hc, by omega, by omega, t_retL T fun p H3 T => ?_⟩
    walk_at "s"
    have hlm : (digits b (m * mid)).length ≤ 50000 := Nat.le_trans (digits_len_mul hb.1 hml (digits_len_le (k := 1) hb.1 (by rw [Nat.pow_one]; omega))) (by decide)
    refine ⟨_, _, _, _, _, rfl, hb.1, by walk_at "fact", T.up ha, hlm, by omega, t_retV T fun H4 T => ?_⟩
    walk_at "s"
    refine if2 (fun h3 => ?_) (fun h3 => ?_)
    · have h4 : (0 : Int) < cmpI (m * mid) n := of_decide_eq_true h3
      have h5 : n < m * mid := by
        unfold cmpI at h4
        split at h4
        · omega
        · split at h4 <;> omega
      have h6 : n / m < mid := Nat.div_lt_of_lt_mul h5
      walk_at "s"
      refine ⟨high - low - (high - mid + 1), by omega, low, mid - 1, _, by congr; omega, by omega, hl, by omega, by omega, T.drop 1⟩
    · have h4 : ¬ (0 : Int) < cmpI (m * mid) n := of_decide_eq_false h3
      have h5 : m * mid ≤ n := by
        unfold cmpI at h4
        split at h4
        · omega
        · split at h4 <;> omega
      have h6 : mid ≤ n / m := (Nat.le_div_iff_mul_le hm).mpr (by rw [Nat.mul_comm]; exact h5)
      walk_at "s"
      refine ⟨high - mid, by omega, mid, high, _, rfl, rfl, h6, hh, hhb, T.drop 1⟩
  · have h2 : ¬ (low : Int) < (high : Int) := of_decide_eq_false h1
    walk_at "s"
    have : low = n / m := by omega
    rw [this]
    exact q.go T

/-! ### shares -/
abbrev s_shares : Stmt := topS 22
theorem sc_shares : FnScope ["base", "one", "other", "found", "at", "left", "own", "figure"] ["base", "one", "other"] (defScope s_shares) := ⟨rfl, rfl, rfl, by decide +kernel, rfl, by decide +kernel, by decide +kernel⟩
def spShares : Sp := fun vs H Q _ => ∃ (b n m : Nat) (a c : Addr), vs = [.int (b : Int), .ref a, .ref c] ∧ (2 ≤ b ∧ b ≤ 1000000) ∧ H a = some (.lst (dig b n)) ∧ H c = some (.lst (dig b m)) ∧ 0 < m ∧ (digits b n).length ≤ 20000 ∧ (digits b m).length ≤ 20000 ∧ RetPP (dig b (n / m)) (dig b (n % m)) H Q
theorem ok_shares {P : Program} {w : World} {K : PySem.W.Frag} {mg : Str → Option Value} {base : Heap} (D : Dfn K mg "shares" s_shares) (m_len : mg "len" = none) (m_max : mg "max" = none) (m_reversed : mg "reversed" = none)
    (C_trimmed : Cal P w K mg base CX0 "trimmed" 1 ["figures"] spTrimmed) (C_often : Cal P w K mg base CX0 "often" 3 ["base", "row", "other"] spOften) (C_less_by : Cal P w K mg base CX0 "less_by" 2 ["base", "one", "other"] spLessBy) (C_times : Cal P w K mg base CX0 "times" 2 ["base", "row", "figure"] spTimes) : Cal P w K mg base CX0 "shares" 4 ["base", "one", "other"] spShares := by
  refine cal0 D sc_shares (fun _ _ _ _ _ _ us hl => match us, hl with | [_, _, _], _ => rfl) (fun vs H Q E h => ?_) (fun f cdv A outer s H vs Q E hr h => ?_)
  · obtain ⟨b, n, m, a, c, rfl, _⟩ := h
    rfl
  obtain ⟨b, n, m, a, c, rfl, hb, ha, hc, hm, hn, hml, q⟩ := h
  have la := digits_lt hb.1 n
  refine ⟨_, (pss_cons (ps_set (i := 3) sc_shares.nd rfl (Or.inl rfl) (pe_lst pa_nil))
      (pss_cons (ps_set (i := 4) sc_shares.nd rfl (Or.inl rfl) (pe_callB (call_max2' rfl) (by rfl) m_max (by decide +kernel) (pa_cons (pe_op op_add (pe_op op_sub (pe_callB call_len1 (by rfl) m_len PySem.boot_len (pa_cons (pv 1) pa_nil)) (pe_callB call_len1 (by rfl) m_len PySem.boot_len (pa_cons (pv 2) pa_nil))) pe_int) (pa_cons pe_int pa_nil))))
      (pss_cons (ps_set (i := 5) sc_shares.nd rfl (Or.inl rfl) (pe_slice sl_list (pv 1) (po_some (pv 4)) po_none))
      (pss_cons (ps_for PassesOwn.never rfl (pi_reversed (by rfl) m_reversed (pa_cons (pe_slice sl_list (pv 1) po_none (po_some (pv 4))) pa_nil)) (pg_name (i := 6) sc_shares.nd rfl (Or.inl rfl)) (pss_cons (ps_set (i := 5) sc_shares.nd rfl (Or.inl rfl) (pc C_trimmed hr (pa_cons (pe_op op_cat (pe_lst (pa_cons (pv 6) pa_nil)) (pv 5)) pa_nil)))
      (pss_cons (ps_set (i := 7) sc_shares.nd rfl (Or.inl rfl) (pc C_often hr (pa_cons (pv 0) (pa_cons (pv 5) (pa_cons (pv 2) pa_nil)))))
      (pss_cons (ps_expr (pe_bm PySem.F.plainAttrs_list PySem.F.slot_list_append PySem.F.type_list_append mt_append (pv 3) (pa_cons (pv 7) pa_nil)))
      (pss_one (ps_set (i := 5) sc_shares.nd rfl (Or.inl rfl) (pc C_less_by hr (pa_cons (pv 0) (pa_cons (pv 5) (pa_cons (pc C_times hr (pa_cons (pv 0) (pa_cons (pv 2) (pa_cons (pv 7) pa_nil)))) pa_nil))))))))))
      (pss_one (ps_ret (pe_tup (pa_cons (pc C_trimmed hr (pa_cons (pe_revL (pv 3)) pa_nil)) (pa_cons (pv 5) pa_nil))))))))), ?_⟩
  show tSeq _ _ _ [some (.int (b : Int)), some (.ref a), some (.ref c), none, none, none, none, none] H
  have T := Trk.nil H
  walk_at "s"
  refine t_new T (Nat.le_of_ble_eq_true rfl) fun d T => ?_
  walk_at "s"
  have l1 : (dig b n).length = (digits b n).length := iv_length _
  have l2 : (dig b m).length = (digits b m).length := iv_length _
  have e1 : max (((dig b n).length : Int) - ((dig b m).length : Int) + 1) 0 = (((digits b n).length + 1 - (digits b m).length : Nat) : Int) := by omega
  rw [e1]
  have hm1 : 0 < (digits b m).length := by
    rcases Nat.eq_zero_or_pos (digits b m).length with z | z
    · have := (digits_nil hb.1).mp (List.eq_nil_of_length_eq_zero z)
      omega
    · exact z
  have hk1 : (digits b n).length + 1 - (digits b m).length ≤ (digits b n).length := by omega
  have hk2 : n / b ^ ((digits b n).length + 1 - (digits b m).length) < m := by
    refine Nat.lt_of_lt_of_le (m := b ^ ((digits b m).length - 1)) ?_ (pow_le_of_len hb.1 (by omega))
    rw [← digits_len_lt hb.1, ← digits_drop hb.1, List.length_drop]
    omega
  generalize hk : (digits b n).length + 1 - (digits b m).length = k at *
  refine t_cut T (T.up ha) fun e T => ?_
  rw [cut_from, show (dig b n).drop k = dig b (n / b ^ k) by unfold dig; rw [← digits_drop hb.1, iv_drop]] at T ⊢
  walk_at "s"
  refine t_cut T (T.up ha) fun g T => ?_
  rw [cut_to, show (dig b n).take k = iv ((digits b n).take k) from (iv_take _ _).symm] at T ⊢
  have lk : ((digits b n).take k).length = k := by rw [List.length_take]; omega
  walk_at "s"
  refine RT.for_Itv (xs := iv ((digits b n).take k)) (fun i σ' H' => ∃ (acc : List Nat) (L : Nat) (e : Addr) (y z : Option V), σ' = [some (.int (b : Int)), some (.ref a), some (.ref c), some (.ref d), some (.int (k : Int)), some (.ref e), y, z] ∧ PartI b (n / b ^ (k - i)) m i acc L ∧ Trk H H' [(g, .lst (iv ((digits b n).take k))), (e, .lst (dig b L)), (d, .lst (iv acc))])
    ⟨[], _, e, none, none, rfl, PartI.start hk2, T⟩ ?_ ?_ ?_
  · rintro i σ' H' ⟨_, _, _, _, _, _, _, T⟩
    exact SqL.of (T.get (i := 0) rfl)
  · rintro i x σ' H' hi hx ⟨acc, L, e, y, z, rfl, S, T⟩
    obtain ⟨u, hu, rfl⟩ := iv_at hx
    rw [iv_length, lk] at hi hu
    have e2 := drop_step hb.1 hi hu
    have hul : u < b := (la.take k).get hu
    have S' := S.step hm hul
    have hl : L < m := by rw [S.r]; exact Nat.mod_lt _ hm
    rw [← e2] at S'
    have hr1 := rem_step_lt hul hl
    have hLl : (digits b L).length ≤ 20000 := Nat.le_trans (digits_len_mono hb.1 (Nat.le_of_lt hl)) hml
    have hrl : (digits b (u + b * L)).length ≤ 20001 := by
      refine Nat.le_trans (digits_len_mono hb.1 (Nat.le_of_lt hr1)) ?_
      exact digits_len_le hb.1 (by rw [Nat.pow_succ]; exact Nat.mul_lt_mul_of_pos_right (digits_len_pred hb.1 hml) (by omega))
    have hq : (u + b * L) / m < b := Nat.div_lt_of_lt_mul hr1
    have hle : m * ((u + b * L) / m) ≤ u + b * L := Nat.mul_div_le _ _
    have hsub : u + b * L - m * ((u + b * L) / m) = (u + b * L) % m := by
      have := Nat.mod_add_div (u + b * L) m
      omega
    walk_at "s"
    refine t_new T (Nat.le_of_ble_eq_true rfl) fun p1 T => ?_
    walk_at "s"
    refine t_cat T (by walk_at "fact") (by walk_at "fact") (by rw [show (dig b L).length = (digits b L).length from iv_length _]; show 1 + _ ≤ _; omega) fun p2 T => ?_
    rw [show [V.int (u : Int)] ++ dig b L = iv ([u] ++ digits b L) from rfl] at T ⊢
    walk_at "s"
    refine ⟨_, _, rfl, by walk_at "fact", by rw [List.length_append]; show 1 + _ ≤ _; omega, ?_⟩
    rw [trim_digits_cons hb.1 hul]
    refine t_retL T fun p3 H1 T => ?_
    walk_at "s"
    refine ⟨_, _, _, _, _, rfl, hb, by walk_at "fact", T.up hc, hm, hr1, by omega, by omega, t_retV T fun H2 T => ?_⟩
    walk_at "s"
    refine t_app (i := 5) T (by exact rfl) (by rw [iv_length, S.len]; omega) fun T => ?_
    rw [← iv_snoc] at T ⊢
    walk_at "s"
    refine ⟨_, _, _, _, rfl, hb, T.up hc, hq, by omega, t_retL T fun p4 H3 T => ?_⟩
    walk_at "s"
    refine ⟨_, _, _, _, _, rfl, hb, by walk_at "fact", by walk_at "fact", by omega, hle, ?_⟩
    rw [hsub]
    refine t_retL T fun p5 H4 T => ?_
    walk_at "s"
    refine ⟨_, _, p5, _, _, rfl, S', T.three 5 0 7 rfl rfl rfl (by decide) (by decide) (by decide)⟩
  · rintro σ' H' ⟨acc, L, e, y, z, rfl, S, T⟩
    rw [iv_length, lk, Nat.sub_self, Nat.pow_zero, Nat.div_one] at S
    walk_at "s"
    refine x_rev (by walk_at "fact") fun d2 hd => ?_
    have T := T.lay (o := .lst (iv acc).reverse) hd
    rw [show (iv acc).reverse = iv acc.reverse from (iv_reverse _).symm] at T ⊢
    walk_at "s"
    refine ⟨_, _, rfl, by walk_at "fact", by rw [List.length_reverse, S.len]; omega, t_retL T fun p H1 T => ?_⟩
    rw [S.done hb.1, S.r] at *
    walk_at "s"
    refine t_tup T (Nat.le_of_ble_eq_true rfl) fun t T => ?_
    exact q.go T (i := 0) (j := 1) (l := 4) (by decide) (by decide) (by decide) rfl rfl rfl

/-! ### is_whole -/
abbrev s_is_whole : Stmt := topS 7
theorem sc_is_whole : FnScope ["thing"] ["thing"] (defScope s_is_whole) := ⟨rfl, rfl, rfl, by decide +kernel, rfl, by decide +kernel, by decide +kernel⟩
def spIsWhole : Sp := fun vs H Q _ => ∃ (x : V) (o : Option Int), vs = [x] ∧ Kd H x o ∧ RetV (.bl o.isSome) H Q
theorem ok_is_whole {P : Program} {w : World} {K : PySem.W.Frag} {mg : Str → Option Value} {base : Heap} (D : Dfn K mg "is_whole" s_is_whole) (m_isinstance : mg "isinstance" = none) (m_int : mg "int" = none) (m_bool : mg "bool" = none) : Cal P w K mg base CX0 "is_whole" 1 ["thing"] spIsWhole := by
  refine cal0 D sc_is_whole (fun _ _ _ _ _ _ us hl => match us, hl with | [_], _ => rfl) (fun vs H Q E h => ?_) (fun f cdv A outer s H vs Q E hr h => ?_)
  · obtain ⟨x, o, rfl, _⟩ := h
    rfl
  obtain ⟨x, o, rfl, hk, q⟩ := h
  obtain ⟨t, ty, hc⟩ := hk.ty (K := K)
  refine ⟨_, (pss_one (ps_ret (pe_and (pe_callB call_isi (by rfl) m_isinstance (by decide +kernel) (pa_cons (pv 0) (pa_cons (pe_bltn (v := .ty "int") (by rfl) m_int (by decide +kernel) rfl) pa_nil))) (pe_one (pe_not (pe_callB call_isi (by rfl) m_isinstance (by decide +kernel) (pa_cons (pv 0) (pa_cons (pe_bltn (v := .ty "bool") (by rfl) m_bool (by decide +kernel) rfl) pa_nil)))))))), ?_⟩
  show tRet _ _ [some x] H
  walk_at "s"
  rcases hc with ⟨e, h1, h2⟩ | ⟨e, h1⟩ | ⟨e, h1, h2⟩
  · refine x_isi ty h1 ?_
    walk_at "s"
    refine x_isi ty h2 ?_
    walk_at "s"
    rw [e] at q
    exact q H (Same.refl H)
  · refine x_isi ty h1 ?_
    walk_at "s"
    rw [e] at q
    exact q H (Same.refl H)
  · refine x_isi ty h1 ?_
    walk_at "s"
    refine x_isi ty h2 ?_
    walk_at "s"
    rw [e] at q
    exact q H (Same.refl H)
/-! ### is_base -/
abbrev s_is_base : Stmt := topS 8
theorem sc_is_base : FnScope ["base"] ["base"] (defScope s_is_base) := ⟨rfl, rfl, rfl, by decide +kernel, rfl, by decide +kernel, by decide +kernel⟩
def isB (o : Option Int) : Bool := match o with
  | some i => decide (2 ≤ i) && decide (i ≤ 1000000)
  | none => false
def spIsBase : Sp := fun vs H Q _ => ∃ (x : V) (o : Option Int), vs = [x] ∧ Kd H x o ∧ RetV (.bl (isB o)) H Q
theorem Kd.some_int {H : Hp} {x : V} {i : Int} (k : Kd H x (some i)) : x = .int i := by
  cases k
  rfl
theorem ok_is_base {P : Program} {w : World} {K : PySem.W.Frag} {mg : Str → Option Value} {base : Heap} (D : Dfn K mg "is_base" s_is_base) (gc_LEAST_BASE : ∃ t, mg "LEAST_BASE" = some (.int 2 t)) (gc_MOST_BASE : ∃ t, mg "MOST_BASE" = some (.int 1000000 t))
    (C_is_whole : Cal P w K mg base CX0 "is_whole" 1 ["thing"] spIsWhole) : Cal P w K mg base CX0 "is_base" 2 ["base"] spIsBase := by
  refine cal0 D sc_is_base (fun _ _ _ _ _ _ us hl => match us, hl with | [_], _ => rfl) (fun vs H Q E h => ?_) (fun f cdv A outer s H vs Q E hr h => ?_)
  · obtain ⟨x, o, rfl, _⟩ := h
    rfl
  obtain ⟨x, o, rfl, hk, q⟩ := h
  obtain ⟨t1, g1⟩ := gc_LEAST_BASE
  obtain ⟨t2, g2⟩ := gc_MOST_BASE
  refine ⟨_, (pss_one (ps_ret (pe_and (pc C_is_whole hr (pa_cons (pv 0) pa_nil)) (pe_one (pe_chain op_le op_le (pe_glob (v := .int 2) (by rfl) g1 ⟨_, rfl⟩) (pv 0) (pe_glob (v := .int 1000000) (by rfl) g2 ⟨_, rfl⟩)))))), ?_⟩
  show tRet _ _ [some x] H
  walk_at "s"
  refine ⟨_, _, rfl, hk, fun H1 s1 => ?_⟩
  cases o with
  | none =>
    walk_at "s"
    exact q _ s1
  | some i =>
    cases hk.some_int
    walk_at "s"
    refine ifT rfl ?_
    walk_at "s"
    have q1 := q H1 s1
    have q2 : Q (.bl (decide (2 ≤ i) && decide (i ≤ 1000000))) H1 := q1
    refine if2 (fun h1 => ?_) (fun h1 => ?_)
    · rw [h1, Bool.true_and] at q2
      walk_at "s"
      exact q2
    · rw [h1, Bool.false_and] at q2
      exact q2
/-! ### need_base, of a good base -/
abbrev s_need_base : Stmt := topS 9
theorem sc_need_base : FnScope ["base"] ["base"] (defScope s_need_base) := ⟨rfl, rfl, rfl, by decide +kernel, rfl, by decide +kernel, by decide +kernel⟩
theorem isB_nat {b : Nat} (hb : 2 ≤ b ∧ b ≤ 1000000) : isB (some (b : Int)) = true := by
  show (decide (2 ≤ (b : Int)) && decide ((b : Int) ≤ 1000000)) = true
  rw [decide_eq_true (by omega), decide_eq_true (by omega)]
  rfl
def spNeedBase : Sp := fun vs H Q _ => ∃ (b : Nat), vs = [.int (b : Int)] ∧ (2 ≤ b ∧ b ≤ 1000000) ∧ RetV .non H Q
theorem ok_need_base {P : Program} {w : World} {K : PySem.W.Frag} {mg : Str → Option Value} {base : Heap} (D : Dfn K mg "need_base" s_need_base) (C_is_base : Cal P w K mg base CX0 "is_base" 2 ["base"] spIsBase) : Cal P w K mg base CX0 "need_base" 3 ["base"] spNeedBase := by
  refine cal0 D sc_need_base (fun _ _ _ _ _ _ us hl => match us, hl with | [_], _ => rfl) (fun vs H Q E h => ?_) (fun f cdv A outer s H vs Q E hr h => ?_)
  · obtain ⟨x, rfl, _⟩ := h
    rfl
  obtain ⟨b, rfl, hb, q⟩ := h
  refine ⟨_, (pss_one (ps_if (pt_not (pt_val (pc C_is_base hr (pa_cons (pv 0) pa_nil)))) (pss_one ps_never) pss_nil)), ?_⟩
  show tIfS _ _ _ _ [some (.int (b : Int))] H
  walk_at "s"
  refine ⟨_, _, rfl, .int _, fun H1 s1 => ?_⟩
  rw [isB_nat hb]
  walk_at "s"
  exact q _ s1
/-! ### is_figure -/
abbrev s_is_figure : Stmt := topS 10
theorem sc_is_figure : FnScope ["base", "figure"] ["base", "figure"] (defScope s_is_figure) := ⟨rfl, rfl, rfl, by decide +kernel, rfl, by decide +kernel, by decide +kernel⟩
def figB (b : Nat) (o : Option Int) : Bool := match o with
  | some i => decide (0 ≤ i) && decide (i < (b : Int))
  | none => false
def spIsFigure : Sp := fun vs H Q _ => ∃ (b : Nat) (x : V) (o : Option Int), vs = [.int (b : Int), x] ∧ (2 ≤ b ∧ b ≤ 1000000) ∧ Kd H x o ∧ RetV (.bl (figB b o)) H Q
theorem ok_is_figure {P : Program} {w : World} {K : PySem.W.Frag} {mg : Str → Option Value} {base : Heap} (D : Dfn K mg "is_figure" s_is_figure)
    (C_is_whole : Cal P w K mg base CX0 "is_whole" 1 ["thing"] spIsWhole) (C_need_base : Cal P w K mg base CX0 "need_base" 3 ["base"] spNeedBase) : Cal P w K mg base CX0 "is_figure" 4 ["base", "figure"] spIsFigure := by
  refine cal0 D sc_is_figure (fun _ _ _ _ _ _ us hl => match us, hl with | [_, _], _ => rfl) (fun vs H Q E h => ?_) (fun f cdv A outer s H vs Q E hr h => ?_)
  · obtain ⟨b, x, o, rfl, _⟩ := h
    rfl
  obtain ⟨b, x, o, rfl, hb, hk, q⟩ := h
  refine ⟨_, (pss_cons (ps_expr (pc C_need_base hr (pa_cons (pv 0) pa_nil)))
      (pss_one (ps_ret (pe_and (pc C_is_whole hr (pa_cons (pv 1) pa_nil)) (pe_one (pe_chain op_le op_lt pe_int (pv 1) (pv 0))))))), ?_⟩
  show tSeq _ _ _ [some (.int (b : Int)), some x] H
  walk_at "s"
  refine ⟨_, rfl, hb, fun H1 s1 => ?_⟩
  walk_at "s"
  refine ⟨_, _, rfl, hk.mono s1, fun H2 s2 => ?_⟩
  cases o with
  | none =>
    walk_at "s"
    exact q _ (s1.trans s2)
  | some i =>
    cases hk.some_int
    walk_at "s"
    refine ifT rfl ?_
    walk_at "s"
    have q1 := q H2 (s1.trans s2)
    have q2 : Q (.bl (decide (0 ≤ i) && decide (i < (b : Int)))) H2 := q1
    refine if2 (fun h1 => ?_) (fun h1 => ?_)
    · rw [h1, Bool.true_and] at q2
      walk_at "s"
      exact q2
    · rw [h1, Bool.false_and] at q2
      exact q2
/-! ### is_row -/
abbrev s_is_row : Stmt := topS 11
theorem sc_is_row : FnScope ["base", "row", "figure"] ["base", "row"] (defScope s_is_row) := ⟨rfl, rfl, rfl, by decide +kernel, rfl, by decide +kernel, by decide +kernel⟩
def rowB (b : Nat) (ks : List (Option Int)) : Bool := ks.all (figB b) && (match ks.getLast? with
  | none => true
  | some o => !decide (o = some 0))
def RowK (H : Hp) (b : Nat) (x : V) (r : Bool) : Prop := (∃ (a : Addr) (xs : List V) (ks : List (Option Int)), x = .ref a ∧ H a = some (.lst xs) ∧ Paired (Kd H) xs ks ∧ ks.length ≤ 50000 ∧ r = rowB b ks) ∨ (NoL H x ∧ r = false)
def spIsRow : Sp := fun vs H Q _ => ∃ (b : Nat) (x : V) (r : Bool), vs = [.int (b : Int), x] ∧ (2 ≤ b ∧ b ≤ 1000000) ∧ RowK H b x r ∧ RetV (.bl r) H Q
theorem paired_mono {H H' : Hp} (s : Same H H') : ∀ {xs : List V} {ks : List (Option Int)}, Paired (Kd H) xs ks → Paired (Kd H') xs ks
  | _, _, .nil => .nil
  | _, _, .cons r t => .cons (r.mono s) (paired_mono s t)
theorem paired_get {H : Hp} : ∀ {xs : List V} {ks : List (Option Int)} {i : Nat} {x : V}, Paired (Kd H) xs ks → xs[i]? = some x → ∃ o, ks[i]? = some o ∧ Kd H x o
  | _, _, _, _, .nil, e => by simp at e
  | _, _, 0, x, .cons r t, e => ⟨_, rfl, by
    have e1 := Option.some.inj e
    rw [← e1]
    exact r⟩
  | _, _, i + 1, x, .cons r t, e => by
    rw [List.getElem?_cons_succ] at e ⊢
    exact paired_get t e
theorem paired_len {H : Hp} : ∀ {xs : List V} {ks : List (Option Int)}, Paired (Kd H) xs ks → xs.length = ks.length
  | _, _, .nil => rfl
  | _, _, .cons r t => by rw [List.length_cons, List.length_cons, paired_len t]
/-- when all are figures, the list is one of numbers -/
theorem paired_figs {H : Hp} {b : Nat} : ∀ {xs : List V} {ks : List (Option Int)}, Paired (Kd H) xs ks → ks.all (figB b) = true → ∃ l : List Nat, xs = iv l ∧ ks = l.map fun (n : Nat) => some (n : Int)
  | _, _, .nil, _ => ⟨[], rfl, rfl⟩
  | _, _, .cons (b := o) r t, h => by
    rw [List.all_cons, Bool.and_eq_true] at h
    obtain ⟨l, e1, e2⟩ := paired_figs t h.2
    cases o with
    | none => exact absurd (show false = true from h.1) Bool.false_ne_true
    | some i =>
      have h1 : (decide (0 ≤ i) && decide (i < (b : Int))) = true := h.1
      rw [Bool.and_eq_true] at h1
      have h2 : 0 ≤ i := of_decide_eq_true h1.1
      refine ⟨i.toNat :: l, ?_, ?_⟩
      · rw [r.some_int, e1]
        show _ = V.int (i.toNat : Int) :: iv l
        rw [Int.toNat_of_nonneg h2]
      · rw [e2, List.map_cons, Int.toNat_of_nonneg h2]
theorem rowB_iv {b : Nat} {l : List Nat} (h : (l.map fun (n : Nat) => some (n : Int)).all (figB b) = true) : rowB b (l.map fun (n : Nat) => some (n : Int)) = (match l.getLast? with
    | none => true
    | some x => !decide ((x : Int) = 0)) := by
  unfold rowB
  rw [h, Bool.true_and, List.getLast?_map]
  cases l.getLast? with
  | none => rfl
  | some x =>
    show (!decide (some (x : Int) = some 0)) = _
    congr 1
    by_cases z : (x : Int) = 0
    · rw [decide_eq_true z, decide_eq_true (by rw [z])]
    · rw [decide_eq_false z, decide_eq_false (fun q => z (Option.some.inj q))]
theorem ok_is_row {P : Program} {w : World} {K : PySem.W.Frag} {mg : Str → Option Value} {base : Heap} (D : Dfn K mg "is_row" s_is_row) (m_isinstance : mg "isinstance" = none) (m_list : mg "list" = none)
    (C_need_base : Cal P w K mg base CX0 "need_base" 3 ["base"] spNeedBase) (C_is_figure : Cal P w K mg base CX0 "is_figure" 4 ["base", "figure"] spIsFigure) : Cal P w K mg base CX0 "is_row" 5 ["base", "row"] spIsRow := by
  refine cal0 D sc_is_row (fun _ _ _ _ _ _ us hl => match us, hl with | [_, _], _ => rfl) (fun vs H Q E h => ?_) (fun f cdv A outer s H vs Q E hr h => ?_)
  · obtain ⟨b, x, r, rfl, _⟩ := h
    rfl
  obtain ⟨b, x, r, rfl, hb, hk, q⟩ := h
  refine ⟨_, (pss_cons (ps_expr (pc C_need_base hr (pa_cons (pv 0) pa_nil)))
      (pss_cons (ps_if (pt_not (pt_val (pe_callB call_isi (by rfl) m_isinstance (by decide +kernel) (pa_cons (pv 1) (pa_cons (pe_bltn (v := .ty "list") (by rfl) m_list (by decide +kernel) rfl) pa_nil))))) (pss_one (ps_ret pe_bl)) pss_nil)
      (pss_cons (ps_for PassesOwn.never rfl (pi_list (pv 1)) (pg_name (i := 2) sc_is_row.nd rfl (Or.inl rfl)) (pss_one (ps_if (pt_not (pt_val (pc C_is_figure hr (pa_cons (pv 0) (pa_cons (pv 2) pa_nil))))) (pss_one (ps_ret pe_bl)) pss_nil)))
      (pss_one (ps_ret (pe_or (pe_cmpR (op_eqD hr.units) (pv 1) (pe_lst pa_nil) (nomark _)) (pe_one (pe_cmpR op_ne (pe_ix ix_list (pv 1) (pe_un un_neg pe_int) (fun _ _ => rfl)) pe_int (nomark _))))))))), ?_⟩
  show tSeq _ _ _ [some (.int (b : Int)), some x, none] H
  walk_at "s"
  refine ⟨_, rfl, hb, fun H1 s1 => ?_⟩
  walk_at "s"
  rcases hk with ⟨a, xs, ks, rfl, ha, hp, hl, rfl⟩ | ⟨hn, rfl⟩
  · have T := (Trk.nil H).call s1
    refine x_isiL (T.up ha) ?_
    walk_at "s"
    refine for_list (xs := xs) (fun i σ' H' => (∃ y, σ' = [some (.int (b : Int)), some (.ref a), y]) ∧ Trk H H' [] ∧ (ks.take i).all (figB b) = true) ⟨⟨none, rfl⟩, T, by rw [List.take_zero]; rfl⟩ ?_ ?_ ?_
    · rintro i σ' H' hi ⟨_, T, _⟩
      exact SqL.of (T.up ha)
    · rintro i x σ' H' hx ⟨⟨y, rfl⟩, T, hall⟩
      obtain ⟨o, ho, hkd⟩ := paired_get hp hx
      walk_at "s"
      refine ⟨_, _, _, rfl, hb, hkd.mono T.same, fun H2 s2 => ?_⟩
      have T := T.call s2
      cases hf : figB b o with
      | true =>
        walk_at "s"
        refine ⟨⟨_, rfl⟩, T, ?_⟩
        rw [List.take_add_one, ho, List.all_append, hall]
        show (true && (figB b o && true)) = true
        rw [hf]
        rfl
      | false =>
        walk_at "s"
        have e : rowB b ks = false := by
          unfold rowB
          have : ks.all (figB b) = false := by
            cases hq : ks.all (figB b) with
            | false => rfl
            | true =>
              have := List.all_eq_true.mp hq o (List.mem_of_getElem? ho)
              rw [hf] at this
              cases this
          rw [this, Bool.false_and]
        rw [e] at q
        exact q.go T
    · rintro σ' H' ⟨⟨y, rfl⟩, T, hall⟩
      rw [List.take_of_length_le (by rw [paired_len hp]; exact Nat.le_refl _)] at hall
      obtain ⟨l, rfl, rfl⟩ := paired_figs hp hall
      rw [rowB_iv hall] at q
      walk_at "s"
      refine ⟨Nat.zero_le _, fun d hd => ?_⟩
      have T := T.lay (o := .lst []) hd
      refine x_eqL (l := l) (m := []) (by walk_at "fact") (by walk_at "fact") ?_
      walk_at "s"
      refine if2 (fun h1 => ?_) (fun h1 => ?_)
      · have h2 : l = [] := of_decide_eq_true h1
        subst h2
        exact q.go T
      · have h2 : ¬ l = [] := of_decide_eq_false h1
        rw [List.getLast?_eq_some_getLast h2] at q
        walk_at "s"
        refine x_ix (v := .int ((l.getLast h2 : Nat) : Int)) (T.up ha) ?_ ?_
        · have e := atI_last (iv l.dropLast) (V.int ((l.getLast h2 : Nat) : Int))
          rw [← iv_snoc, List.dropLast_concat_getLast] at e
          exact e
        walk_at "s"
        exact q.go T
  · obtain ⟨t, ty, kb⟩ := (hn.mono s1).ty (K := K)
    refine x_isi ty kb ?_
    walk_at "s"
    exact q _ s1
/-! ### need_row, of a row -/
abbrev s_need_row : Stmt := topS 12
theorem sc_need_row : FnScope ["base", "row"] ["base", "row"] (defScope s_need_row) := ⟨rfl, rfl, rfl, by decide +kernel, rfl, by decide +kernel, by decide +kernel⟩
def spNeedRow : Sp := fun vs H Q _ => ∃ (b n : Nat) (a : Addr), vs = [.int (b : Int), .ref a] ∧ (2 ≤ b ∧ b ≤ 1000000) ∧ H a = some (.lst (dig b n)) ∧ (digits b n).length ≤ 50000 ∧ RetV .non H Q
theorem paired_iv {H : Hp} : ∀ l : List Nat, Paired (Kd H) (iv l) (l.map fun (n : Nat) => some (n : Int))
  | [] => .nil
  | x :: l => .cons (.int _) (paired_iv l)
theorem all_figs {b : Nat} {l : List Nat} (h : AllLt b l) : (l.map fun (n : Nat) => some (n : Int)).all (figB b) = true := by
  rw [List.all_map, List.all_eq_true]
  intro x hx
  have := h x hx
  show (decide (0 ≤ (x : Int)) && decide ((x : Int) < (b : Int))) = true
  rw [decide_eq_true (by omega), decide_eq_true (by omega)]
  rfl
theorem rowB_dig {b n : Nat} (hb : 2 ≤ b) : rowB b ((digits b n).map fun (n : Nat) => some (n : Int)) = true := by
  rw [rowB_iv (all_figs (digits_lt hb n))]
  cases h : (digits b n).getLast? with
  | none => rfl
  | some x =>
    obtain ⟨l, e⟩ := List.getLast?_eq_some_iff.mp h
    have := digits_last hb e
    show (!decide ((x : Int) = 0)) = true
    rw [decide_eq_false (by omega)]
    rfl
theorem rowK_dig {H : Hp} {b n : Nat} {a : Addr} (hb : 2 ≤ b) (ha : H a = some (.lst (dig b n))) (hl : (digits b n).length ≤ 50000) : RowK H b (.ref a) true :=
  .inl ⟨a, _, _, rfl, ha, paired_iv _, by rw [List.length_map]; exact hl, (rowB_dig hb).symm⟩
theorem ok_need_row {P : Program} {w : World} {K : PySem.W.Frag} {mg : Str → Option Value} {base : Heap} (D : Dfn K mg "need_row" s_need_row) (C_is_row : Cal P w K mg base CX0 "is_row" 5 ["base", "row"] spIsRow) : Cal P w K mg base CX0 "need_row" 6 ["base", "row"] spNeedRow := by
  refine cal0 D sc_need_row (fun _ _ _ _ _ _ us hl => match us, hl with | [_, _], _ => rfl) (fun vs H Q E h => ?_) (fun f cdv A outer s H vs Q E hr h => ?_)
  · obtain ⟨b, n, a, rfl, _⟩ := h
    rfl
  obtain ⟨b, n, a, rfl, hb, ha, hl, q⟩ := h
  refine ⟨_, (pss_one (ps_if (pt_not (pt_val (pc C_is_row hr (pa_cons (pv 0) (pa_cons (pv 1) pa_nil))))) (pss_one ps_never) pss_nil)), ?_⟩
  show tIfS _ _ _ _ [some (.int (b : Int)), some (.ref a)] H
  walk_at "s"
  refine ⟨_, _, _, rfl, hb, rowK_dig hb.1 ha hl, fun H1 s1 => ?_⟩
  walk_at "s"
  exact q _ s1

/-! ### ladder -/
inductive Lad : Nat → Nat → List Nat → Nat → Prop
  | nil (n : Nat) : Lad n 0 [] n
  | cons {n m g : Nat} {qs : List Nat} : 0 < m → Lad m (n % m) qs g → Lad n m (n / m :: qs) g
theorem lad_total : ∀ k n m : Nat, m < 2 ^ k → ∃ qs g, Lad n m qs g ∧ qs.length ≤ 2 * k
  | 0, n, m, h => by
    have : m = 0 := by
      have : (2 : Nat) ^ 0 = 1 := rfl
      omega
    subst this
    exact ⟨[], n, .nil n, Nat.le_refl _⟩
  | k + 1, n, m, h => by
    rcases Nat.eq_zero_or_pos m with z | z
    · subst z
      exact ⟨[], n, .nil n, Nat.zero_le _⟩
    have hr := Nat.mod_lt n z
    generalize hrr : n % m = r at hr
    rcases Nat.eq_zero_or_pos r with y | y
    · refine ⟨[n / m], m, .cons z ?_, ?_⟩
      · rw [hrr, y]
        exact .nil m
      · show 1 ≤ _
        omega
    have hs := Nat.mod_lt m y
    have he := Nat.mod_add_div m r
    have hd : 1 ≤ m / r := Nat.div_pos (Nat.le_of_lt hr) y
    have hd2 : r * 1 ≤ r * (m / r) := Nat.mul_le_mul_left r hd
    have hp : 2 ^ (k + 1) = 2 ^ k * 2 := Nat.pow_succ 2 k
    obtain ⟨qs, g, hl, hq⟩ := lad_total k r (m % r) (by omega)
    refine ⟨n / m :: m / r :: qs, g, .cons z ?_, ?_⟩
    · rw [hrr]
      exact .cons y hl
    · show qs.length + 1 + 1 ≤ _
      omega
theorem lad_zero {n g : Nat} {qs : List Nat} (h : Lad n 0 qs g) : qs = [] ∧ g = n := by
  cases h with
  | nil => exact ⟨rfl, rfl⟩
  | cons h _ => exact absurd h (Nat.lt_irrefl _)
theorem lad_pos {n m g : Nat} {qs : List Nat} (hm : 0 < m) (h : Lad n m qs g) : ∃ qs', qs = n / m :: qs' ∧ Lad m (n % m) qs' g := by
  cases h with
  | nil => exact absurd hm (Nat.lt_irrefl _)
  | cons _ h => exact ⟨_, rfl, h⟩
theorem lad_cons {n m g q : Nat} {qs : List Nat} (h : Lad n m (q :: qs) g) : 0 < m ∧ q = n / m ∧ Lad m (n % m) qs g := by
  cases h with
  | cons h1 h => exact ⟨h1, rfl, h⟩
theorem lad_same : ∀ {qs : List Nat} {n m n' m' g : Nat}, Lad n m qs g → Lad n' m' qs g → n = n' ∧ m = m'
  | [], _, _, _, _, _, .nil _, h => by
    cases h
    exact ⟨rfl, rfl⟩
  | q :: qs, n, m, n', m', g, h, h' => by
    obtain ⟨z, e, h1⟩ := lad_cons h
    obtain ⟨z', e', h1'⟩ := lad_cons h'
    obtain ⟨e1, e2⟩ := lad_same h1 h1'
    subst e1
    refine ⟨?_, rfl⟩
    rw [← Nat.mod_add_div n m, ← Nat.mod_add_div n' m, ← e, ← e', e2]
theorem lad_drop : ∀ {qs : List Nat} {n m g : Nat}, Lad n m qs g → ∀ j, j ≤ qs.length → ∃ x y, Lad x y (qs.drop j) g ∧ x ≤ max n m ∧ y ≤ max n m
  | qs, n, m, g, h, 0, _ => ⟨n, m, h, by omega, by omega⟩
  | [], n, m, g, h, j + 1, hj => absurd hj (Nat.not_succ_le_zero _)
  | q :: qs, n, m, g, h, j + 1, hj => by
    obtain ⟨z, e, h1⟩ := lad_cons h
    obtain ⟨x, y, h2, hx, hy⟩ := lad_drop h1 j (Nat.le_of_succ_le_succ hj)
    have := Nat.mod_lt n z
    exact ⟨x, y, h2, by omega, by omega⟩
def refs (rs : List (Addr × Nat)) : List V := rs.map fun r => V.ref r.1
def lays (b : Nat) (rs : List (Addr × Nat)) : List (Addr × HO) := rs.map fun r => (r.1, HO.lst (dig b r.2))
def nums (rs : List (Addr × Nat)) : List Nat := rs.map fun r => r.2
theorem refs_snoc (rs : List (Addr × Nat)) (r : Addr × Nat) : refs (rs ++ [r]) = refs rs ++ [V.ref r.1] := by
  unfold refs
  rw [List.map_append]
  rfl
theorem lays_snoc (b : Nat) (rs : List (Addr × Nat)) (r : Addr × Nat) : lays b (rs ++ [r]) = lays b rs ++ [(r.1, HO.lst (dig b r.2))] := by
  unfold lays
  rw [List.map_append]
  rfl
theorem nums_snoc (rs : List (Addr × Nat)) (r : Addr × Nat) : nums (rs ++ [r]) = nums rs ++ [r.2] := by
  unfold nums
  rw [List.map_append]
  rfl
theorem refs_len (rs : List (Addr × Nat)) : (refs rs).length = rs.length := List.length_map _
theorem nums_len (rs : List (Addr × Nat)) : (nums rs).length = rs.length := List.length_map _
theorem perm4 {α : Type _} (p r lo d : α) (L : List α) : (p :: r :: lo :: d :: L).Perm (lo :: r :: d :: (L ++ [p])) := by
  have h1 : (L ++ [p]).Perm (p :: L) := List.perm_append_singleton _ _
  have h2 : (lo :: r :: d :: (L ++ [p])).Perm (lo :: r :: d :: p :: L) := ((h1.cons d).cons r).cons lo
  have h3 : (p :: r :: lo :: d :: L).Perm (lo :: r :: d :: p :: L) := ((List.Perm.swap lo r (d :: L)).cons p).trans ((List.Perm.swap lo p (r :: d :: L)).trans (((List.Perm.swap r p (d :: L)).cons lo).trans (((List.Perm.swap d p L).cons r).cons lo)))
  exact h3.trans h2.symm
def RetLad (b : Nat) (qs : List Nat) (g : Nat) (H : Hp) (Q : VK) : Prop := ∀ (t l h : Addr) (rs : List (Addr × Nat)) (H' : Hp), nums rs = qs → Trk H H' ((t, .tup [.ref l, .ref h]) :: (l, .lst (refs rs)) :: (h, .lst (dig b g)) :: lays b rs) → Q (.ref t) H'
abbrev s_ladder : Stmt := topS 23
theorem sc_ladder : FnScope ["base", "one", "other", "found", "high", "low", "number", "left"] ["base", "one", "other"] (defScope s_ladder) := ⟨rfl, rfl, rfl, by decide +kernel, rfl, by decide +kernel, by decide +kernel⟩
def spLadder : Sp := fun vs H Q _ => ∃ (b n m g : Nat) (qs : List Nat) (a c : Addr), vs = [.int (b : Int), .ref a, .ref c] ∧ (2 ≤ b ∧ b ≤ 1000000) ∧ H a = some (.lst (dig b n)) ∧ H c = some (.lst (dig b m)) ∧ (digits b n).length ≤ 10000 ∧ (digits b m).length ≤ 10000 ∧ Lad n m qs g ∧ qs.length ≤ 50000 ∧ RetLad b qs g H Q
theorem ok_ladder {P : Program} {w : World} {K : PySem.W.Frag} {mg : Str → Option Value} {base : Heap} (D : Dfn K mg "ladder" s_ladder) (m_list : mg "list" = none)
    (C_need_base : Cal P w K mg base CX0 "need_base" 3 ["base"] spNeedBase) (C_need_row : Cal P w K mg base CX0 "need_row" 6 ["base", "row"] spNeedRow)
    (C_shares : Cal P w K mg base CX0 "shares" 4 ["base", "one", "other"] spShares) : Cal P w K mg base CX0 "ladder" 7 ["base", "one", "other"] spLadder := by
  refine cal0 D sc_ladder (fun _ _ _ _ _ _ us hl => match us, hl with | [_, _, _], _ => rfl) (fun vs H Q E h => ?_) (fun f cdv A outer s H vs Q E hr h => ?_)
  · obtain ⟨b, n, m, g, qs, a, c, rfl, _⟩ := h
    rfl
  obtain ⟨b, n, m, g, qs, a, c, rfl, hb, ha, hc, hn, hml, hlad, hql, q⟩ := h
  refine ⟨_, (pss_cons (ps_expr (pc C_need_base hr (pa_cons (pv 0) pa_nil)))
      (pss_cons (ps_expr (pc C_need_row hr (pa_cons (pv 0) (pa_cons (pv 1) pa_nil))))
      (pss_cons (ps_expr (pc C_need_row hr (pa_cons (pv 0) (pa_cons (pv 2) pa_nil))))
      (pss_cons (ps_set (i := 3) sc_ladder.nd rfl (Or.inl rfl) (pe_lst pa_nil))
      (pss_cons (ps_par (i := 4) (j := 5) rfl sc_ladder.nd rfl rfl (by decide) rfl rfl (pa_cons (pe_callTy call_list1 (by rfl) m_list (by decide +kernel) (pa_cons (pv 1) pa_nil)) (pa_cons (pe_callTy call_list1 (by rfl) m_list (by decide +kernel) (pa_cons (pv 2) pa_nil)) pa_nil)) (by rfl))
      (pss_cons (ps_while PassesOwn.never (pt_cmpR (op_neD hr.units) (pv 5) (pe_lst pa_nil) (nomark _)) (pss_cons (ps_asg (pc C_shares hr (pa_cons (pv 0) (pa_cons (pv 4) (pa_cons (pv 5) pa_nil)))) (pg_tup rfl (pgs_cons (pg_name (i := 6) sc_ladder.nd rfl (Or.inl rfl)) (pgs_cons (pg_name (i := 7) sc_ladder.nd rfl (Or.inl rfl)) pgs_nil))))
      (pss_cons (ps_expr (pe_bm PySem.F.plainAttrs_list PySem.F.slot_list_append PySem.F.type_list_append mt_append (pv 3) (pa_cons (pv 6) pa_nil)))
      (pss_one (ps_par (i := 4) (j := 5) rfl sc_ladder.nd rfl rfl (by decide) rfl rfl (pa_cons (pv 5) (pa_cons (pv 7) pa_nil)) (by rfl))))))
      (pss_one (ps_ret (pe_tup (pa_cons (pv 3) (pa_cons (pv 4) pa_nil))))))))))), ?_⟩
  show tSeq _ _ _ [some (.int (b : Int)), some (.ref a), some (.ref c), none, none, none, none, none] H
  have T := Trk.nil H
  walk_at "s"
  refine ⟨_, rfl, hb, t_retV T fun H1 T => ?_⟩
  walk_at "s"
  refine ⟨_, _, _, rfl, hb, T.up ha, by omega, t_retV T fun H2 T => ?_⟩
  walk_at "s"
  refine ⟨_, _, _, rfl, hb, T.up hc, by omega, t_retV T fun H3 T => ?_⟩
  walk_at "s"
  refine t_new T (Nat.le_of_ble_eq_true rfl) fun d T => ?_
  walk_at "s"
  refine t_list T (T.up ha) fun h0 T => ?_
  walk_at "s"
  refine t_list T (T.up hc) fun l0 T => ?_
  walk_at "s"
  refine x_while (fun j σ' H' => ∃ (rs : List (Addr × Nat)) (qs' : List Nat) (x : Nat) (h lo : Addr) (u v : Option V), σ' = [some (.int (b : Int)), some (.ref a), some (.ref c), some (.ref d), some (.ref h), some (.ref lo), u, v] ∧ Lad x j qs' g ∧ nums rs ++ qs' = qs ∧ (digits b x).length ≤ 10000 ∧ (digits b j).length ≤ 10000 ∧
    Trk H H' ((lo, .lst (dig b j)) :: (h, .lst (dig b x)) :: (d, .lst (refs rs)) :: lays b rs)) m ⟨[], qs, n, h0, l0, none, none, rfl, hlad, rfl, hn, hml, T⟩ ?_
  clear T
  rintro j σ' H' ⟨rs, qs', x, h, lo, u, v, rfl, hl, hqs, hxl, hjl, T⟩
  have hrl : rs.length ≤ 50000 := by
    have := congrArg List.length hqs
    rw [List.length_append, nums_len] at this
    omega
  walk_at "s"
  refine t_new T (Nat.le_of_ble_eq_true rfl) fun e T => ?_
  walk_at "s"
  refine x_neL (l := digits b j) (m := []) (by walk_at "fact") (by walk_at "fact") ?_
  walk_at "s"
  refine if2 (fun h1 => ?_) (fun h1 => ?_)
  · have h2 : 0 < j := by
      rcases Nat.eq_zero_or_pos j with z | z
      · rw [decide_eq_true ((digits_nil hb.1).mpr z)] at h1
        cases h1
      · exact z
    obtain ⟨qs2, rfl, hl2⟩ := lad_pos h2 hl
    refine x_turn ?_
    walk_at "s"
    refine ⟨_, _, _, _, _, rfl, hb, by walk_at "fact", by walk_at "fact", h2, by omega, by omega, t_retPP T fun t p r H5 T => ?_⟩
    walk_at "s"
    refine t_app (i := 6) T (by exact rfl) (by rw [refs_len]; omega) fun T => ?_
    walk_at "s"
    have hjr := digits_len_mono hb.1 (Nat.le_of_lt (Nat.mod_lt x h2))
    refine ⟨x % j, Nat.mod_lt _ h2, rs ++ [(p, x / j)], qs2, j, lo, r, _, _, rfl, hl2, ?_, hjl, by omega, ?_⟩
    · rw [nums_snoc, List.append_assoc]
      exact hqs
    · rw [refs_snoc, lays_snoc]
      have T2 := T.sub (L' := (p, .lst (dig b (x / j))) :: (r, .lst (dig b (x % j))) :: (lo, .lst (dig b j)) :: (d, .lst (refs rs ++ [V.ref p])) :: lays b rs) (.cons _ (.cons₂ _ (.cons₂ _ (.cons _ (.cons₂ _ (.cons _ (.cons₂ _ (.refl _))))))))
      exact (T2.perm (perm4 _ _ _ _ _)).perm (List.Perm.swap _ _ _)
  · have h2 : j = 0 := by
      rcases Nat.eq_zero_or_pos j with z | z
      · exact z
      · rw [decide_eq_false (fun z => by rw [digits_nil hb.1] at z; omega)] at h1
        cases h1
    subst h2
    obtain ⟨rfl, rfl⟩ := lad_zero hl
    walk_at "s"
    refine t_tup T (Nat.le_of_ble_eq_true rfl) fun t T => ?_
    rw [List.append_nil] at hqs
    exact q t d h rs _ hqs ((T.sub (L' := (t, .tup [.ref d, .ref h]) :: (h, .lst (dig b g)) :: (d, .lst (refs rs)) :: lays b rs) (.cons₂ _ (.cons _ (.cons _ (.cons₂ _ (.cons₂ _ (.refl _))))))).perm ((List.Perm.swap _ _ _).cons _))

/-! the law's walk -/
local macro_rules | `(tactic| walk_at "len") => `(tactic| first
  | omega
  | assumption
  | (simp only [dig, iv_length, iv_append, List.length_append, List.length_cons, List.length_nil, List.length_replicate, List.length_map, List.length_reverse, List.length_take, List.length_drop]; omega))
local macro_rules | `(tactic| walk_at "l0") => `(tactic| first
  | walk_at "s0"
  | with_reducible refine x_if ?_
  | refine t_new ‹_› (Nat.le_of_ble_eq_true rfl) fun _ _ => ?_
  | refine t_tup ‹_› (Nat.le_of_ble_eq_true rfl) fun _ _ => ?_
  | ((with_reducible show rList1 _ _ _ _); refine t_list ‹_› (by walk_at "fact") fun _ _ => ?_)
  | ((with_reducible refine' x_ix ?k1 ?k2 ?_); (case k1 => walk_at "fact"); (case k2 => first | exact atI_nat (j := 0) rfl | exact atI_nat (j := 1) rfl))
  | ((with_reducible show spDraw _ _ _ _ _); refine ⟨_, _, _, rfl, Trk.sq ‹_› ‹_›, by omega, fun _ => t_retV ‹_› fun _ _ => ?_⟩)
  | ((with_reducible show spIsNumber _ _ _ _); refine ⟨_, rfl, t_retV ‹_› fun _ _ => ?_⟩)
  | ((with_reducible show spLawNumber _ _ _ _); refine ⟨_, _, _, rfl, ‹_›, by walk_at "fact", t_retV ‹_› fun _ _ => ?_⟩)
  | ((with_reducible show spSame _ _ _ _); refine ⟨_, _, _, rfl, by walk_at "fact", by walk_at "fact", by walk_at "len", t_retV ‹_› fun _ _ => ?_⟩)
  | ((with_reducible show rAppend _ _ _ _); first
    | refine t_app (i := 0) ‹_› (by exact rfl) (by walk_at "len") fun _ => ?_
    | refine t_app (i := 1) ‹_› (by exact rfl) (by walk_at "len") fun _ => ?_
    | refine t_app (i := 2) ‹_› (by exact rfl) (by walk_at "len") fun _ => ?_
    | refine t_app (i := 3) ‹_› (by exact rfl) (by walk_at "len") fun _ => ?_
    | refine t_app (i := 4) ‹_› (by exact rfl) (by walk_at "len") fun _ => ?_
    | refine t_app (i := 5) ‹_› (by exact rfl) (by walk_at "len") fun _ => ?_
    | refine t_app (i := 6) ‹_› (by exact rfl) (by walk_at "len") fun _ => ?_
    | refine t_app (i := 7) ‹_› (by exact rfl) (by walk_at "len") fun _ => ?_
    | refine t_app (i := 8) ‹_› (by exact rfl) (by walk_at "len") fun _ => ?_
    | refine t_app (i := 9) ‹_› (by exact rfl) (by walk_at "len") fun _ => ?_))
local macro_rules | `(tactic| walk_at "l1") => `(tactic| first | with_reducible refine x_seq ?_ | walk_at "l0")
local macro_rules | `(tactic| walk_at "le") => `(tactic| repeat (walk_at "l0"))
local macro_rules | `(tactic| walk_at "l") => `(tactic| repeat (walk_at "l1"))

/-! ### lists of rows, compared -/
def pdR (b : Nat) (qs : List Nat) : List PyData := qs.map fun q => pdI (digits b q)
section
variable {K : PySem.W.Frag} {H : Hp} {Q : VK} {p q l l' h h' : Addr} {b : Nat} {rs ks : List (Addr × Nat)} {xs : List Nat}
theorem dpAll_rows : ∀ {rs : List (Addr × Nat)}, (∀ r ∈ rs, H r.1 = some (.lst (dig b r.2))) → DpAll K H (refs rs) (pdR b (nums rs))
  | [], _ => .nil
  | r :: rs, hr => .cons (dp_iv (hr r List.mem_cons_self)) (dpAll_rows fun z hz => hr z (List.mem_cons_of_mem _ hz))
theorem canLay_rows (b : Nat) : ∀ qs : List Nat, PyData.canLayAll0 (pdR b qs) = true
  | [] => rfl
  | x :: l => by
    show (PyData.canLay0 (pdI _) && PyData.canLayAll0 (pdR b l)) = true
    rw [canLay_rows b l, canLay_pdI]
    rfl
theorem depth_rows (b : Nat) : ∀ qs : List Nat, PyData.depthAll (pdR b qs) ≤ 1
  | [] => Nat.zero_le _
  | x :: l => by
    show max (PyData.depth (pdI _)) (PyData.depthAll (pdR b l)) ≤ 1
    have := depth_rows b l
    rw [depth_pdI]
    omega
theorem eqv_rows (b : Nat) : ∀ qs : List Nat, PyData.eqvAll (pdR b qs) (pdR b qs) = true
  | [] => rfl
  | x :: l => by
    show (PyData.eqv (pdI _) (pdI _) && PyData.eqvAll (pdR b l) (pdR b l)) = true
    rw [eqv_rows b l, eqv_pdI, decide_eq_true rfl]
    rfl
theorem shaped_rows (b : Nat) (qs : List Nat) : SeqAt.shaped (.list (pdR b qs)) = true := by
  unfold SeqAt.shaped
  have h1 : (PyData.list (pdR b qs)).canLay0 = true := canLay_rows b qs
  have h2 : (PyData.list (pdR b qs)).depth ≤ 64 := by
    have := depth_rows b qs
    show PyData.depthAll (pdR b qs) + 1 ≤ 64
    omega
  rw [h1, decide_eq_true h2]
  rfl
theorem shaped_tup (b : Nat) (qs : List Nat) (xs : List Nat) : SeqAt.shaped (.tuple [.list (pdR b qs), pdI xs]) = true := by
  unfold SeqAt.shaped
  have h1 : (PyData.tuple [.list (pdR b qs), pdI xs]).canLay0 = true := by
    show (PyData.canLayAll0 (pdR b qs) && ((pdI xs).canLay0 && true)) = true
    rw [canLay_rows, canLay_pdI]
    rfl
  have h2 : (PyData.tuple [.list (pdR b qs), pdI xs]).depth ≤ 64 := by
    have := depth_rows b qs
    show max (PyData.depthAll (pdR b qs) + 1) (max (pdI xs).depth 0) + 1 ≤ 64
    rw [depth_pdI]
    omega
  rw [h1, decide_eq_true h2]
  rfl
theorem eqv_tup (b : Nat) (qs : List Nat) (xs : List Nat) : PyData.eqv (.tuple [.list (pdR b qs), pdI xs]) (.tuple [.list (pdR b qs), pdI xs]) = true := by
  show (PyData.eqvAll (pdR b qs) (pdR b qs) && (PyData.eqv (pdI xs) (pdI xs) && true)) = true
  rw [eqv_rows, eqv_pdI, decide_eq_true rfl]
  rfl
theorem dp_rows (hp : H p = some (.lst (refs rs))) (hr : ∀ r ∈ rs, H r.1 = some (.lst (dig b r.2))) : Dp K H (.ref p) (.list (pdR b (nums rs))) := .lst (SqL.of hp) (dpAll_rows hr)
theorem dp_tup (hp : H p = some (.tup [.ref l, .ref h])) (hl : H l = some (.lst (refs rs))) (hr : ∀ r ∈ rs, H r.1 = some (.lst (dig b r.2))) (hh : H h = some (.lst (iv xs))) : Dp K H (.ref p) (.tuple [.list (pdR b (nums rs)), pdI xs]) := .tup (SqT.of hp) (.cons (dp_rows hl hr) (.cons (dp_iv hh) .nil))
theorem x_neR (hp : H p = some (.lst (refs rs))) (hr : ∀ r ∈ rs, H r.1 = some (.lst (dig b r.2))) (hq : H q = some (.lst (refs ks))) (hk : ∀ r ∈ ks, H r.1 = some (.lst (dig b r.2))) (e : nums rs = nums ks) (k : Q (.bl false) H) : rNeD K (.ref p) (.ref q) H Q :=
  ⟨_, _, dp_rows hp hr, dp_rows hq hk, shaped_rows _ _, shaped_rows _ _, by
    rw [e]
    show Q (.bl (!PyData.eqvAll _ _)) H
    rw [eqv_rows]
    exact k⟩
theorem x_neT (hp : H p = some (.tup [.ref l, .ref h])) (hl : H l = some (.lst (refs rs))) (hr : ∀ r ∈ rs, H r.1 = some (.lst (dig b r.2))) (hh : H h = some (.lst (iv xs))) (hq : H q = some (.tup [.ref l', .ref h'])) (hl' : H l' = some (.lst (refs ks))) (hk : ∀ r ∈ ks, H r.1 = some (.lst (dig b r.2))) (hh' : H h' = some (.lst (iv xs))) (e : nums rs = nums ks) (k : Q (.bl false) H) : rNeD K (.ref p) (.ref q) H Q :=
  ⟨_, _, dp_tup hp hl hr hh, dp_tup hq hl' hk hh', shaped_tup _ _ _, shaped_tup _ _ _, by
    rw [e, eqv_tup]
    exact k⟩
theorem x_eqT (hp : H p = some (.tup [.ref l, .ref h])) (hl : H l = some (.lst (refs rs))) (hr : ∀ r ∈ rs, H r.1 = some (.lst (dig b r.2))) (hh : H h = some (.lst (iv xs))) (hq : H q = some (.tup [.ref l', .ref h'])) (hl' : H l' = some (.lst (refs ks))) (hk : ∀ r ∈ ks, H r.1 = some (.lst (dig b r.2))) (hh' : H h' = some (.lst (iv xs))) (e : nums rs = nums ks) (k : Q (.bl true) H) : rEqD K (.ref p) (.ref q) H Q :=
  ⟨_, _, dp_tup hp hl hr hh, dp_tup hq hl' hk hh', shaped_tup _ _ _, shaped_tup _ _ _, by
    rw [e, eqv_tup]
    exact k⟩
theorem Trk.rows {H0 : Hp} {L : List (Addr × HO)} (T : Trk H0 H L) (h : ∀ e ∈ lays b rs, e ∈ L) : ∀ r ∈ rs, H r.1 = some (.lst (dig b r.2)) := fun r hr => T.at_ (r.1, .lst (dig b r.2)) (h _ (List.mem_map_of_mem hr))
end
theorem refs_at {rs : List (Addr × Nat)} {i : Nat} {v : V} (h : (refs rs)[i]? = some v) : ∃ r, rs[i]? = some r ∧ v = .ref r.1 := by
  unfold refs at h
  rw [List.getElem?_map] at h
  cases e : rs[i]? with
  | none =>
    rw [e] at h
    cases h
  | some r =>
    rw [e] at h
    exact ⟨r, rfl, (Option.some.inj h).symm⟩
abbrev s__law_cut : Stmt := topS 28
theorem sc__law_cut : FnScope ["_law_row", "_law_many"] ["_law_row", "_law_many"] (defScope s__law_cut) := ⟨rfl, rfl, rfl, by decide +kernel, rfl, by decide +kernel, by decide +kernel⟩
def spLawCut : Sp := fun vs H Q _ => ∃ (b n k : Nat) (a : Addr), vs = [.ref a, .int (k : Int)] ∧ 2 ≤ b ∧ H a = some (.lst (dig b n)) ∧ (digits b n).length ≤ 1000 ∧ RetL (dig b (n % b ^ k)) H Q
theorem ok_law_cut {P : Program} {w : World} {K : PySem.W.Frag} {mg : Str → Option Value} {base : Heap} (D : Dfn K mg "_law_cut" s__law_cut) : Cal P w K mg base CX0 "_law_cut" 1 (["_law_row", "_law_many"]) spLawCut := by
  refine cal0 D sc__law_cut (fun _ _ _ _ _ _ us hl => match us, hl with | [_, _], _ => rfl) (fun vs H Q E h => ?_) (fun f cdv A outer s H vs Q E hr h => ?_)
  · obtain ⟨b, n, k, a, rfl, _⟩ := h
    rfl
  obtain ⟨b, n, k, a, rfl, hb, ha, hl, q⟩ := h
  refine ⟨_, (pss_cons (ps_set (i := 0) sc__law_cut.nd rfl (Or.inl rfl) (pe_slice sl_list (pv 0) po_none (po_some (pv 1))))
      (pss_cons (ps_while PassesOwn.never (PW.pt (pw_and (pt_cmpR (op_neD hr.units) (pv 0) (pe_lst pa_nil) (nomark _)) (pw_and1 (pt_cmpR op_eq (pe_ix ix_list (pv 0) (pe_un un_neg pe_int) (fun _ _ => rfl)) pe_int (nomark _))))) (pss_one (ps_set (i := 0) sc__law_cut.nd rfl (Or.inl rfl) (pe_slice sl_list (pv 0) po_none (po_some (pe_un un_neg pe_int))))))
      (pss_one (ps_ret (pv 0))))), ?_⟩
  show tSeq _ _ _ [some (.ref a), some (.int (k : Int))] H
  have T := Trk.nil H
  walk_at "s"
  refine t_cut T (T.up ha) fun d T => ?_
  rw [cut_to, show (dig b n).take k = iv ((digits b n).take k) from (iv_take _ _).symm] at T ⊢
  rw [show dig b (n % b ^ k) = iv (trim ((digits b n).take k)) by unfold dig; rw [trim_take hb]] at q
  have hl2 : ((digits b n).take k).length ≤ 1000 := by rw [List.length_take]; omega
  generalize (digits b n).take k = acc at *
  walk_at "s"
  refine x_while (fun mm σ' H' => ∃ (d' : Addr) (r : List Nat), σ' = [some (.ref d'), some (.int (k : Int))] ∧ r.length = mm ∧ r.length ≤ 1000 ∧ trim r = trim acc ∧ Trk H H' [(d', .lst (iv r))]) acc.length
    ⟨d, acc, rfl, rfl, by omega, rfl, T⟩ ?_
  clear T
  rintro mm σ' H' ⟨d', r, rfl, hrl, hr1, hrt, T⟩
  walk_at "s"
  refine t_new T (Nat.le_of_ble_eq_true rfl) fun e T => ?_
  refine x_neL (l := r) (m := []) (by walk_at "fact") (by walk_at "fact") ?_
  walk_at "s"
  by_cases hr0 : r = []
  · subst hr0
    refine ifF rfl ?_
    walk_at "s"
    refine q.go T 1 ?_
    rw [← hrt]
    rfl
  · obtain ⟨r', x, rfl⟩ : ∃ r' x, r = r' ++ [x] := ⟨r.dropLast, r.getLast hr0, (List.dropLast_concat_getLast hr0).symm⟩
    refine ifT (by rw [decide_eq_false hr0]; rfl) ?_
    walk_at "s"
    refine x_ix (v := .int (x : Int)) (by walk_at "fact") (by rw [iv_snoc]; exact atI_last _ _) ?_
    walk_at "s"
    by_cases hx : x = 0
    · subst hx
      refine ifT rfl ?_
      refine x_turn ?_
      walk_at "s"
      refine x_cut (xs := iv (r' ++ [0])) (by walk_at "fact") fun d2 hd2 => ?_
      have T := T.lay (o := .lst (cutV (iv (r' ++ [0])) none (some (-1)))) hd2
      have ec : cutV (iv (r' ++ [0])) none (some (-1)) = iv r' := by
        rw [iv_snoc]
        exact cut_last
      rw [ec] at T ⊢
      walk_at "s"
      rw [List.length_append] at hrl hr1
      refine ⟨r'.length, by rw [← hrl]; exact Nat.lt_succ_self _, d2, r', rfl, rfl, by omega, ?_, T.take 1⟩
      rw [trim_snoc_zero] at hrt
      exact hrt
    · refine ifF (decide_eq_false (by omega)) ?_
      walk_at "s"
      refine q.go T 1 ?_
      rw [← hrt, trim_snoc_pos hx]
      rfl
abbrev s__law_is_row : Stmt := topS 32
theorem sc__law_is_row : FnScope ["_law_base", "_law_found", "_law_figure"] ["_law_base", "_law_found"] (defScope s__law_is_row) := ⟨rfl, rfl, rfl, by decide +kernel, rfl, by decide +kernel, by decide +kernel⟩
def spLawIsRow : Sp := fun vs H Q _ => ∃ (b n : Nat) (a : Addr), vs = [.int (b : Int), .ref a] ∧ 2 ≤ b ∧ H a = some (.lst (dig b n)) ∧ RetV (.bl true) H Q
theorem ok_law_is_row {P : Program} {w : World} {K : PySem.W.Frag} {mg : Str → Option Value} {base : Heap} (D : Dfn K mg "_law_is_row" s__law_is_row) (m_isinstance : mg "isinstance" = none) (m_list : mg "list" = none) (C__law_is_number : Cal P w K mg base CX0 "_law_is_number" 1 ["_law_found"] spIsNumber) : Cal P w K mg base CX0 "_law_is_row" 2 (["_law_base", "_law_found"]) spLawIsRow := by
  refine cal0 D sc__law_is_row (fun _ _ _ _ _ _ us hl => match us, hl with | [_, _], _ => rfl) (fun vs H Q E h => ?_) (fun f cdv A outer s H vs Q E hr h => ?_)
  · obtain ⟨b, n, a, rfl, _⟩ := h
    rfl
  obtain ⟨b, n, a, rfl, hb, ha, q⟩ := h
  have la := digits_lt hb n
  refine ⟨_, (pss_cons (ps_if (pt_not (pt_val (pe_callB call_isi (by rfl) m_isinstance (by decide +kernel) (pa_cons (pv 1) (pa_cons (pe_bltn (v := .ty "list") (by rfl) m_list (by decide +kernel) rfl) pa_nil))))) (pss_one (ps_ret pe_bl)) pss_nil)
      (pss_cons (ps_for PassesOwn.never rfl (pi_list (pv 1)) (pg_name (i := 2) sc__law_is_row.nd rfl (Or.inl rfl)) (pss_one (ps_if (PW.pt (pw_or (pt_not (pt_val (pc C__law_is_number hr (pa_cons (pv 2) pa_nil)))) (pw_or1 (pt_not (pt_chain op_le op_lt pe_int (pv 2) (pv 0)))))) (pss_one (ps_ret pe_bl)) pss_nil)))
      (pss_one (ps_ret (pe_or (pe_cmpR (op_eqD hr.units) (pv 1) (pe_lst pa_nil) (nomark _)) (pe_one (pe_cmpR op_ne (pe_ix ix_list (pv 1) (pe_un un_neg pe_int) (fun _ _ => rfl)) pe_int (nomark _)))))))), ?_⟩
  show tSeq _ _ _ [some (.int (b : Int)), some (.ref a), none] H
  have T := Trk.nil H
  walk_at "s"
  refine x_isiL (T.up ha) ?_
  walk_at "s"
  refine for_keep T (fun _ T => T.up ha) none rfl ?_ ?_
  · intro i x y H5 hx T
    obtain ⟨u, hu, rfl⟩ := iv_at hx
    have hul := la.get hu
    dsimp only [List.set_cons_zero, List.set_cons_succ]
    walk_at "s"
    refine ⟨_, rfl, t_retV T fun _ T => ?_⟩
    walk_at "s"
    refine ifT (decide_eq_true (by omega)) ?_
    walk_at "s"
    rw [decide_eq_true (by omega : (u : Int) < (b : Int))]
    walk_at "s"
    exact ⟨⟨_, rfl⟩, T⟩
  · intro y H5 T
    walk_at "s"
    refine t_new T (Nat.le_of_ble_eq_true rfl) fun d T => ?_
    refine x_eqL (l := digits b n) (m := []) (T.up ha) (by walk_at "fact") ?_
    walk_at "s"
    refine if2 (fun h1 => ?_) (fun h1 => ?_)
    · have h2 : digits b n = [] := of_decide_eq_true h1
      first | exact q.go T | (walk_at "s"; exact q.go T)
    · have h2 : ¬ digits b n = [] := of_decide_eq_false h1
      have ho := List.dropLast_concat_getLast h2
      have hz := digits_last hb ho.symm
      walk_at "s"
      refine x_ix (v := .int (((digits b n).getLast h2 : Nat) : Int)) (T.up ha) ?_ ?_
      · have e := atI_last (iv (digits b n).dropLast) (V.int (((digits b n).getLast h2 : Nat) : Int))
        rw [← iv_snoc, ho] at e
        exact e
      walk_at "s"
      rw [decide_eq_false (by omega)]
      exact q.go T

theorem lad_g {n m g : Nat} {qs : List Nat} (h : Lad n m qs g) : g ≤ max n m := by
  obtain ⟨x, y, h2, hx, hy⟩ := lad_drop h qs.length (Nat.le_refl _)
  rw [List.drop_length] at h2
  cases h2
  exact hx
theorem lad_mem : ∀ {qs : List Nat} {n m g : Nat}, Lad n m qs g → ∀ q ∈ qs, q ≤ max n m
  | [], _, _, _, _, _, h => nomatch h
  | q :: qs, n, m, g, h, z, hz => by
    obtain ⟨h1, e, h2⟩ := lad_cons h
    have h3 := Nat.div_le_self n m
    have h4 := Nat.mod_lt n h1
    rcases List.mem_cons.mp hz with rfl | hz
    · omega
    · have := lad_mem h2 z hz
      omega
theorem refs_get {rs : List (Addr × Nat)} {i : Nat} {r : Addr × Nat} (h : rs[i]? = some r) : (refs rs)[i]? = some (.ref r.1) := by
  unfold refs
  rw [List.getElem?_map, h]
  rfl
theorem refs_drop (rs : List (Addr × Nat)) (k : Nat) : (refs rs).drop k = refs (rs.drop k) := List.map_drop.symm
theorem nums_drop (rs : List (Addr × Nat)) (k : Nat) : nums (rs.drop k) = (nums rs).drop k := List.map_drop
theorem nums_get {rs : List (Addr × Nat)} {i : Nat} {r : Addr × Nat} (h : rs[i]? = some r) : (nums rs)[i]? = some r.2 := by
  unfold nums
  rw [List.getElem?_map, h]
  rfl
abbrev s_law : Stmt := topS 33
theorem sc_law : FnScope ["_law_script", "_law_base", "_law_most", "_law_one", "_law_other", "_law_by", "_law_handed", "_law_found", "_law_high", "_law_low", "_law_row", "_law_kept", "_law_last", "_law_k"] ["_law_script"] (defScope s_law) := ⟨rfl, rfl, rfl, by decide +kernel, rfl, by decide +kernel, by decide +kernel⟩
set_option maxHeartbeats 4000000 in
theorem ok_law {P : Program} {w : World} {K : PySem.W.Frag} {mg : Str → Option Value} {base : Heap} {fa : Addr} {fd : FuncData} (F : FunD K "law" "law" (defArgs s_law) (defBody s_law) (defScope s_law) [] [] fa fd) (m_list : mg "list" = none) (m_len : mg "len" = none) (m_range : mg "range" = none) (m_reversed : mg "reversed" = none) (m_isinstance : mg "isinstance" = none) (m_tuple : mg "tuple" = none) (C__law_draw : Cal P w K mg base CX0 "_law_draw" 1 ["_law_script", "_law_k"] (spDraw K)) (C__law_base_by : Cal P w K mg base CX0 "_law_base_by" 1 ["_law_cell"] spBaseBy) (C__law_row_by : Cal P w K mg base CX0 "_law_row_by" 2 ["_law_script", "_law_k", "_law_base", "_law_most"] (spRowBy K)) (C__law_cut : Cal P w K mg base CX0 "_law_cut" 1 (["_law_row", "_law_many"]) spLawCut) (C__law_number : Cal P w K mg base CX0 "_law_number" 1 ["_law_base", "_law_row"] spLawNumber) (C__law_figures : Cal P w K mg base CX0 "_law_figures" 1 ["_law_base", "_law_number_here"] spLawFigures) (C__law_is_row : Cal P w K mg base CX0 "_law_is_row" 2 (["_law_base", "_law_found"]) spLawIsRow) (C_ladder : Cal P w K mg base CX0 "ladder" 7 ["base", "one", "other"] spLadder) : FnOk P w K mg base CX0 8 fa fd ["_law_script"] (spLaw K) := by
  refine fn0 F sc_law (fun vs H Q E h => ?_) (fun cdv A outer s H vs Q E hr h => ?_)
  · obtain ⟨a, ns, rfl, _⟩ := h
    rfl
  obtain ⟨a, ns, rfl, hS, q⟩ := h
  refine ⟨_, (pss_cons (ps_set (i := 1) sc_law.nd rfl (Or.inl rfl) (pc C__law_base_by hr (pa_cons (pc C__law_draw hr (pa_cons (pv 0) (pa_cons pe_int pa_nil))) pa_nil)))
      (pss_cons (ps_set (i := 2) sc_law.nd rfl (Or.inl rfl) pe_int)
      (pss_cons (ps_if (pt_cmpR op_lt (pv 1) pe_int (nomark _)) (pss_one (ps_set (i := 2) sc_law.nd rfl (Or.inl rfl) pe_int)) pss_nil)
      (pss_cons (ps_par (i := 3) (j := 4) rfl sc_law.nd rfl rfl (by decide) rfl rfl (pa_cons (pc C__law_row_by hr (pa_cons (pv 0) (pa_cons pe_int (pa_cons (pv 1) (pa_cons (pv 2) pa_nil))))) (pa_cons (pc C__law_row_by hr (pa_cons (pv 0) (pa_cons pe_int (pa_cons (pv 1) (pa_cons (pv 2) pa_nil))))) pa_nil)) (by rfl))
      (pss_cons (ps_if (pt_cmpR op_gt (pv 1) pe_int (nomark _)) (pss_one (ps_par (i := 3) (j := 4) rfl sc_law.nd rfl rfl (by decide) rfl rfl (pa_cons (pc C__law_cut hr (pa_cons (pv 3) (pa_cons pe_int pa_nil))) (pa_cons (pc C__law_cut hr (pa_cons (pv 4) (pa_cons pe_int pa_nil))) pa_nil)) (by rfl))) pss_nil)
      (pss_cons (ps_if (pt_cmpR op_eq (pe_op op_mod (pc C__law_draw hr (pa_cons (pv 0) (pa_cons pe_int pa_nil))) pe_int) pe_int (nomark _)) (pss_cons (ps_set (i := 5) sc_law.nd rfl (Or.inl rfl) (pe_op op_add pe_int (pc C__law_number hr (pa_cons (pv 1) (pa_cons (pc C__law_row_by hr (pa_cons (pv 0) (pa_cons pe_int (pa_cons (pv 1) (pa_cons pe_int pa_nil))))) pa_nil)))))
      (pss_cons (ps_set (i := 3) sc_law.nd rfl (Or.inl rfl) (pc C__law_figures hr (pa_cons (pv 1) (pa_cons (pe_op op_mulW (pv 5) (pc C__law_number hr (pa_cons (pv 1) (pa_cons (pv 3) pa_nil)))) pa_nil))))
      (pss_one (ps_set (i := 4) sc_law.nd rfl (Or.inl rfl) (pc C__law_figures hr (pa_cons (pv 1) (pa_cons (pe_op op_mulW (pv 5) (pc C__law_number hr (pa_cons (pv 1) (pa_cons (pv 4) pa_nil)))) pa_nil))))))) pss_nil)
      (pss_cons (ps_set (i := 6) sc_law.nd rfl (Or.inl rfl) (pe_lst (pa_cons (pe_callTy call_list1 (by rfl) m_list (by decide +kernel) (pa_cons (pv 3) pa_nil)) (pa_cons (pe_callTy call_list1 (by rfl) m_list (by decide +kernel) (pa_cons (pv 4) pa_nil)) pa_nil))))
      (pss_cons (ps_set (i := 7) sc_law.nd rfl (Or.inl rfl) (pc C_ladder hr (pa_cons (pv 1) (pa_cons (pe_ix ix_list (pv 6) pe_int (fun _ _ => rfl)) (pa_cons (pe_ix ix_list (pv 6) pe_int (fun _ _ => rfl)) pa_nil)))))
      (pss_cons (ps_if (PW.pt (pw_or (pt_not (pt_val (pe_callB call_isi (by rfl) m_isinstance (by decide +kernel) (pa_cons (pv 7) (pa_cons (pe_bltn (v := .ty "tuple") (by rfl) m_tuple (by decide +kernel) rfl) pa_nil))))) (pw_or (pt_cmpR op_ne (pe_callB call_len1 (by rfl) m_len PySem.boot_len (pa_cons (pv 7) pa_nil)) pe_int (nomark _)) (pw_or1 (pt_not (pt_val (pe_callB call_isi (by rfl) m_isinstance (by decide +kernel) (pa_cons (pe_ix ix_tup (pv 7) pe_int (fun _ _ => rfl)) (pa_cons (pe_bltn (v := .ty "list") (by rfl) m_list (by decide +kernel) rfl) pa_nil))))))))) (pss_one (ps_ret pe_bl)) pss_nil)
      (pss_cons (ps_if (PW.pt (pw_or (pt_not (pt_val (pc C__law_is_row hr (pa_cons (pv 1) (pa_cons (pe_ix ix_tup (pv 7) pe_int (fun _ _ => rfl)) pa_nil))))) (pw_or1 (pt_cmpR (op_neD hr.units) (pv 6) (pe_lst (pa_cons (pv 3) (pa_cons (pv 4) pa_nil))) (nomark _))))) (pss_one (ps_ret pe_bl)) pss_nil)
      (pss_cons (ps_par (i := 8) (j := 9) rfl sc_law.nd rfl rfl (by decide) rfl rfl (pa_cons (pc C__law_number hr (pa_cons (pv 1) (pa_cons (pe_ix ix_tup (pv 7) pe_int (fun _ _ => rfl)) pa_nil))) (pa_cons pe_int pa_nil)) (by rfl))
      (pss_cons (ps_for PassesOwn.never rfl (pi_reversed (by rfl) m_reversed (pa_cons (pe_ix ix_tup (pv 7) pe_int (fun _ _ => rfl)) pa_nil)) (pg_name (i := 10) sc_law.nd rfl (Or.inl rfl)) (pss_cons (ps_if (PW.pt (pw_or (pt_not (pt_val (pc C__law_is_row hr (pa_cons (pv 1) (pa_cons (pv 10) pa_nil))))) (pw_or1 (pt_cmpR op_ge (pv 9) (pv 8) (nomark _))))) (pss_one (ps_ret pe_bl)) pss_nil)
      (pss_one (ps_par (i := 8) (j := 9) rfl sc_law.nd rfl rfl (by decide) rfl rfl (pa_cons (pe_op op_add (pe_op op_mulW (pc C__law_number hr (pa_cons (pv 1) (pa_cons (pv 10) pa_nil))) (pv 8)) (pv 9)) (pa_cons (pv 8) pa_nil)) (by rfl)))))
      (pss_cons (ps_if (PW.pt (pw_or (pt_cmpR op_ne (pv 8) (pc C__law_number hr (pa_cons (pv 1) (pa_cons (pv 3) pa_nil))) (nomark _)) (pw_or1 (pt_cmpR op_ne (pv 9) (pc C__law_number hr (pa_cons (pv 1) (pa_cons (pv 4) pa_nil))) (nomark _))))) (pss_one (ps_ret pe_bl)) pss_nil)
      (pss_cons (ps_setLc (i := 11) (own := [("_law_row", 10)]) (g := gName 10) (tt := tYes) rfl sc_law.nd rfl rfl (sw_true rfl rfl rfl (by decide +kernel)) (pi_list (pe_ix ix_tup (pv 7) pe_int (fun _ _ => rfl))) (blkOk_by (N := ["_law_script", "_law_base", "_law_most", "_law_one", "_law_other", "_law_by", "_law_handed", "_law_found", "_law_high", "_law_low", "_law_row", "_law_kept", "_law_last", "_law_k"]) (sc := defScope s_law) (by decide +kernel)) (fun _ _ _ _ _ => pg_name (i := 10) sc_law.nd rfl (Or.inl rfl)) (fun _ _ _ _ _ => pts_nil) (fun _ _ _ _ _ => (pe_callTy (T := "list") (call_list1T (K := K) rfl) (by rfl) m_list (by decide +kernel) (pa_cons (pv 10) pa_nil))))
      (pss_cons (ps_set (i := 12) sc_law.nd rfl (Or.inl rfl) (pe_callTy call_list1 (by rfl) m_list (by decide +kernel) (pa_cons (pe_ix ix_tup (pv 7) pe_int (fun _ _ => rfl)) pa_nil)))
      (pss_cons (ps_for PassesOwn.never rfl (pi_range1 (by rfl) m_range (pa_cons (pe_callB call_len1 (by rfl) m_len PySem.boot_len (pa_cons (pv 11) pa_nil)) pa_nil)) (pg_name (i := 13) sc_law.nd rfl (Or.inl rfl)) (pss_cons (ps_expr (pe_bm PySem.F.plainAttrs_list PySem.F.slot_list_append PySem.F.type_list_append mt_append (pe_ix ix_list (pe_ix ix_tup (pv 7) pe_int (fun _ _ => rfl)) (pv 13) (fun _ _ => rfl)) (pa_cons pe_int pa_nil)))
      (pss_one (ps_if (PW.pt (pw_or (pt_cmpR (op_neD hr.units) (pe_slice sl_list (pe_ix ix_tup (pv 7) pe_int (fun _ _ => rfl)) (po_some (pe_op op_add (pv 13) pe_int)) po_none) (pe_slice sl_list (pv 11) (po_some (pe_op op_add (pv 13) pe_int)) po_none) (nomark _)) (pw_or1 (pt_cmpR (op_neD hr.units) (pe_ix ix_tup (pv 7) pe_int (fun _ _ => rfl)) (pv 12) (nomark _))))) (pss_one (ps_ret pe_bl)) pss_nil))))
      (pss_cons (ps_expr (pe_bm PySem.F.plainAttrs_list PySem.F.slot_list_append PySem.F.type_list_append mt_append (pe_ix ix_tup (pv 7) pe_int (fun _ _ => rfl)) (pa_cons pe_int pa_nil)))
      (pss_cons (ps_if (PW.pt (pw_or (pt_cmpR (op_neD hr.units) (pv 6) (pe_lst (pa_cons (pv 3) (pa_cons (pv 4) pa_nil))) (nomark _)) (pw_or1 (pt_cmpR (op_neD hr.units) (pc C_ladder hr (pa_cons (pv 1) (pa_cons (pe_callTy call_list1 (by rfl) m_list (by decide +kernel) (pa_cons (pv 4) pa_nil)) (pa_cons (pe_lst pa_nil) pa_nil)))) (pe_tup (pa_cons (pe_lst pa_nil) (pa_cons (pv 4) pa_nil))) (nomark _))))) (pss_one (ps_ret pe_bl)) pss_nil)
      (pss_one (ps_ret (pe_cmpR (op_eqD hr.units) (pc C_ladder hr (pa_cons (pv 1) (pa_cons (pe_ix ix_list (pv 6) pe_int (fun _ _ => rfl)) (pa_cons (pe_ix ix_list (pv 6) pe_int (fun _ _ => rfl)) pa_nil)))) (pe_tup (pa_cons (pv 11) (pa_cons (pv 12) pa_nil))) (nomark _)))))))))))))))))))))), ?_⟩
  show tSeq _ _ _ [some (.ref a), none, none, none, none, none, none, none, none, none, none, none, none, none] H
  have T := Trk.nil H
  walk_at "l"
  refine ⟨_, rfl, fun b hb => t_retV ‹_› fun H1 T => ?_⟩
  have hb1 := hb.1
  have hb2 := hb.2
  walk_at "e"
  with_reducible refine x_seq ?_
  walk_at "e"
  with_reducible refine x_seq ?_
  refine x_ifJ 2 (fun v => ∃ k : Nat, v = .int (k : Int) ∧ 1 ≤ k ∧ k ≤ 16) ?_ ?_
  rotate_left
  · intro R hk
    walk_at "l"
    refine if2 (fun h1 => ?_) (fun h1 => ?_)
    · walk_at "l"
      exact hk (.int 16) _ (Same.refl _) ⟨16, rfl, by decide, by decide⟩
    · walk_at "l"
      exact hk (.int 12) _ (Same.refl _) ⟨12, rfl, by decide, by decide⟩
  rintro v H4 s4 ⟨k0, rfl, hk0, hk1⟩
  have T := T.call s4
  dsimp only [List.set_cons_zero, List.set_cons_succ]
  walk_at "l"
  refine ⟨_, _, _, _, _, rfl, Trk.sq ‹_› ‹_›, by omega, hb, ⟨by omega, by omega⟩, fun n ln => t_retL ‹_› fun p1 _ _ => ?_⟩
  walk_at "l"
  refine ⟨_, _, _, _, _, rfl, Trk.sq ‹_› ‹_›, by omega, hb, ⟨by omega, by omega⟩, fun m lm => t_retL ‹_› fun p2 _ _ => ?_⟩
  have ln : (digits b n).length ≤ 15 := Nat.le_trans ln (by omega)
  have lm : (digits b m).length ≤ 15 := Nat.le_trans lm (by omega)
  walk_at "e"
  with_reducible refine x_seq ?_
  rename_i T
  refine x_mid (fun σ' H' => ∃ (p1 p2 : Addr) (n m : Nat), σ' = [some (.ref a), some (.int (b : Int)), some (.int (k0 : Int)), some (.ref p1), some (.ref p2), none, none, none, none, none, none, none, none, none] ∧ (digits b n).length ≤ 15 ∧ (digits b m).length ≤ 15 ∧ Trk H H' [(p2, .lst (dig b m)), (p1, .lst (dig b n))]) ?_ ?_
  · intro R hk
    walk_at "l"
    refine if2 (fun h1 => ?_) (fun h1 => ?_)
    · walk_at "l"
      refine ⟨b, n, 4, _, rfl, hb1, by walk_at "fact", by omega, t_retL ‹_› fun p3 _ _ => ?_⟩
      walk_at "l"
      refine ⟨b, m, 4, _, rfl, hb1, by walk_at "fact", by omega, t_retL ‹_› fun p4 _ T => ?_⟩
      walk_at "l"
      have l1 := digits_len_mono hb1 (Nat.mod_le n (b ^ 4))
      have l2 := digits_len_mono hb1 (Nat.mod_le m (b ^ 4))
      exact hk _ _ ⟨p3, p4, _, _, rfl, by omega, by omega, T.two 0 1 rfl rfl (by decide)⟩
    · walk_at "l"
      exact hk _ _ ⟨p1, p2, n, m, rfl, ln, lm, T⟩
  clear T ln lm
  rintro σ' H5 ⟨p1, p2, n, m, rfl, ln, lm, T⟩
  with_reducible refine x_seq ?_
  refine x_mid (fun σ' H' => ∃ (p1 p2 : Addr) (n m : Nat) (y : Option V), σ' = [some (.ref a), some (.int (b : Int)), some (.int (k0 : Int)), some (.ref p1), some (.ref p2), y, none, none, none, none, none, none, none, none] ∧ (digits b n).length ≤ 25 ∧ (digits b m).length ≤ 25 ∧ Trk H H' [(p2, .lst (dig b m)), (p1, .lst (dig b n))]) ?_ ?_
  · intro R hk
    walk_at "l"
    refine x_I (by decide) ?_
    walk_at "l"
    refine if2 (fun h1 => ?_) (fun h1 => ?_)
    rotate_left
    · walk_at "l"
      exact hk _ _ ⟨p1, p2, n, m, none, rfl, by omega, by omega, ‹_›⟩
    walk_at "l"
    refine ⟨_, _, _, _, _, rfl, Trk.sq ‹_› ‹_›, by omega, hb, ⟨by omega, by omega⟩, fun r lr => t_retL ‹_› fun p3 _ _ => ?_⟩
    have lr : (digits b r).length ≤ 8 := Nat.le_trans lr (by decide)
    walk_at "l"
    rw [show (1 : Int) + (r : Int) = ((1 + r : Nat) : Int) by omega]
    have lr1 : (digits b (1 + r)).length ≤ 9 := digits_len_add hb1 (by rw [digits_one hb1]; decide) lr
    generalize 1 + r = y at *
    have l1 := digits_len_mul hb1 lr1 ln
    have l2 := digits_len_mul hb1 lr1 lm
    walk_at "l"
    refine x_I (wide_mul (pow_bits hb lr1) (pow_bits hb ln) (by decide) (by decide) (by decide)) ?_
    walk_at "l"
    rw [← Int.natCast_mul]
    refine ⟨_, _, rfl, hb, by omega, t_retL ‹_› fun p5 _ _ => ?_⟩
    walk_at "l"
    refine x_I (wide_mul (pow_bits hb lr1) (pow_bits hb lm) (by decide) (by decide) (by decide)) ?_
    walk_at "l"
    rw [← Int.natCast_mul]
    refine ⟨_, _, rfl, hb, by omega, t_retL ‹_› fun p6 _ T => ?_⟩
    walk_at "l"
    exact hk _ _ ⟨p5, p6, _, _, _, rfl, by omega, by omega, T.two 0 1 rfl rfl (by decide)⟩
  clear T ln lm
  rintro σ' H6 ⟨p1, p2, n, m, y5, rfl, ln, lm, T⟩
  obtain ⟨qs, g, hlad, hql⟩ := lad_total 501 n m (by
    have h := pow_bits hb lm
    rw [Int.natAbs_natCast] at h
    exact h)
  have hg := lad_g hlad
  have lmx : (digits b (max n m)).length ≤ 25 := by
    rcases Nat.le_total n m with z | z
    · rw [Nat.max_eq_right z]
      exact lm
    · rw [Nat.max_eq_left z]
      exact ln
  have lB : ∀ x, x ≤ max n m → (digits b x).length ≤ 25 := fun x hx => Nat.le_trans (digits_len_mono hb1 hx) lmx
  walk_at "l"
  rename_i h1 _ h2 _ hd T
  refine ⟨_, n, m, g, qs, _, _, rfl, hb, by walk_at "fact", by walk_at "fact", by omega, by omega, hlad, by omega, fun t l h rs H7 hnum T7 => ?_⟩
  have hrl : rs.length ≤ 1002 := by
    rw [← nums_len rs, hnum]
    exact hql
  have T : Trk H H7 ((t, .tup [.ref l, .ref h]) :: (l, .lst (refs rs)) :: (h, .lst (dig b g)) :: (hd, .lst [.ref h1, .ref h2]) :: (h2, .lst (dig b m)) :: (h1, .lst (dig b n)) :: (p2, .lst (dig b m)) :: (p1, .lst (dig b n)) :: lays b rs) :=
    (T.comp T7).perm (((List.perm_append_comm.cons _).cons _).cons _)
  walk_at "l"
  refine x_isiT (by walk_at "fact") ?_
  walk_at "l"
  refine ifF rfl ?_
  walk_at "l"
  refine x_ixT (by walk_at "fact") (atI_nat (j := 0) rfl) ?_
  walk_at "l"
  refine x_isiL (by walk_at "fact") ?_
  walk_at "l"
  refine x_ixT (by walk_at "fact") (atI_nat (j := 1) rfl) ?_
  walk_at "l"
  refine ⟨b, g, h, rfl, hb1, by walk_at "fact", t_retV ‹_› fun _ _ => ?_⟩
  walk_at "l"
  refine x_neLL (by walk_at "fact") (by walk_at "fact") (by walk_at "fact") (by walk_at "fact") (by walk_at "fact") (by walk_at "fact") ?_
  walk_at "l"
  refine x_ixT (by walk_at "fact") (atI_nat (j := 1) rfl) ?_
  walk_at "l"
  refine x_ixT (by walk_at "fact") (atI_nat (j := 0) rfl) ?_
  walk_at "l"
  rename_i T
  have T := T.drop 1
  have hkl : (refs rs).length = qs.length := by rw [refs_len, ← nums_len, hnum]
  refine RT.for_Itv (xs := refs rs) (fun i σ' H' => ∃ (x y : Nat) (z : Option V), σ' = [some (.ref a), some (.int (b : Int)), some (.int (k0 : Int)), some (.ref p1), some (.ref p2), y5, some (.ref hd), some (.ref t), some (.int (x : Int)), some (.int (y : Int)), z, none, none, none] ∧ Lad x y (qs.drop (qs.length - i)) g ∧ x ≤ max n m ∧ y ≤ max n m ∧
    Trk H H' ((t, .tup [.ref l, .ref h]) :: (l, .lst (refs rs)) :: (h, .lst (dig b g)) :: (hd, .lst [.ref h1, .ref h2]) :: (h2, .lst (dig b m)) :: (h1, .lst (dig b n)) :: (p2, .lst (dig b m)) :: (p1, .lst (dig b n)) :: lays b rs))
    ⟨g, 0, none, rfl, by rw [Nat.sub_zero, List.drop_length]; exact .nil g, hg, Nat.zero_le _, T⟩ ?_ ?_ ?_
  · clear T
    rintro i σ' H' ⟨_, _, _, _, _, _, _, T⟩
    exact SqL.of (T.get (i := 1) rfl)
  · clear T
    rintro i v σ' H' hi hx ⟨x, y, z, rfl, hl, hxB, hyB, T⟩
    rw [hkl] at hi hx
    obtain ⟨r, hr2, rfl⟩ := refs_at hx
    have hrm := List.mem_of_getElem? hr2
    have hat := Trk.rows (b := b) (rs := rs) T (fun e he => by simp only [List.mem_cons, he, or_true])
    have hq : qs[qs.length - 1 - i]? = some r.2 := by
      rw [← hnum]
      rw [← hnum] at hr2
      exact nums_get hr2
    obtain ⟨x', y', hl', hx', hy'⟩ := lad_drop hlad (qs.length - (i + 1)) (by omega)
    obtain ⟨hq1, hq2⟩ := List.getElem?_eq_some_iff.mp hq
    have e1 : qs.length - (i + 1) = qs.length - 1 - i := by omega
    have e2 : qs.length - i = qs.length - 1 - i + 1 := by omega
    rw [e1] at hl' ⊢
    have hl3 := hl'
    rw [List.drop_eq_getElem_cons hq1, hq2, ← e2] at hl3
    obtain ⟨hz, hr3, hl4⟩ := lad_cons hl3
    obtain ⟨ex, ey⟩ := lad_same hl hl4
    have hlt := Nat.mod_lt x' hz
    subst ex ey
    have hrB : r.2 ≤ max n m := by
      rw [hr3]
      exact Nat.le_trans (Nat.div_le_self _ _) hx'
    walk_at "l"
    refine ⟨b, r.2, r.1, rfl, hb1, hat r hrm, t_retV T fun _ T => ?_⟩
    walk_at "l"
    refine ifF (decide_eq_false (by omega)) ?_
    walk_at "l"
    have hat := Trk.rows (b := b) (rs := rs) T (fun e he => by simp only [List.mem_cons, he, or_true])
    refine ⟨b, r.2, r.1, rfl, hb, hat r hrm, t_retV T fun _ T => ?_⟩
    walk_at "l"
    refine x_I (wide_mul (pow_bits hb (lB _ hrB)) (pow_bits hb (lB _ hxB)) (by decide) (by decide) (by decide)) ?_
    walk_at "l"
    have ev : (r.2 : Int) * (x : Int) + ((x' % x : Nat) : Int) = (x' : Int) := by
      rw [← Int.natCast_mul, ← Int.natCast_add, hr3, Nat.mul_comm, Nat.div_add_mod]
    rw [ev]
    exact ⟨x', x, _, rfl, hl', hx', hxB, ‹_›⟩
  clear T
  rintro σ' H' ⟨x, y, z10, rfl, hl, _, _, T⟩
  rw [hkl, Nat.sub_self, List.drop_zero] at hl
  obtain ⟨ex, ey⟩ := lad_same hl hlad
  subst ex ey
  walk_at "l"
  refine ifF (by rw [decide_eq_true rfl]; rfl) ?_
  walk_at "l"
  refine ifF (by rw [decide_eq_true rfl]; rfl) ?_
  walk_at "l"
  refine x_ixT (by walk_at "fact") (atI_nat (j := 0) rfl) ?_
  walk_at "l"
  intro D hD
  rename_i T
  have T := T.lay (o := .lst []) hD
  refine lc_list (xs := refs rs) (fun i H' => ∃ ks : List (Addr × Nat), nums ks = (nums rs).take i ∧ Trk H H' ((D, .lst (refs ks)) :: (t, .tup [.ref l, .ref h]) :: (l, .lst (refs rs)) :: (h, .lst (dig b g)) :: (hd, .lst [.ref h1, .ref h2]) :: (h2, .lst (dig b y)) :: (h1, .lst (dig b x)) :: (p2, .lst (dig b y)) :: (p1, .lst (dig b x)) :: (lays b rs ++ lays b ks)))
    ⟨[], rfl, by rw [show lays b rs ++ lays b [] = lays b rs from List.append_nil _]; exact T⟩ ?_ ?_ ?_
  · clear T
    rintro i H' hi ⟨ks, hks, T⟩
    exact SqL.of (T.get (i := 2) rfl)
  · clear T
    rintro i v H' hx ⟨ks, hks, T⟩
    obtain ⟨r, hr2, rfl⟩ := refs_at hx
    have hat := Trk.rows (b := b) (rs := rs) T (fun e he => by simp only [List.mem_cons, List.mem_append, he, or_true, true_or])
    have hkn : ks.length ≤ 1002 := by
      have := congrArg List.length hks
      rw [nums_len, List.length_take, nums_len] at this
      omega
    show gName 10 _ [some (.ref a), some (.int (b : Int)), some (.int (k0 : Int)), some (.ref p1), some (.ref p2), y5, some (.ref hd), some (.ref t), some (.int (x : Int)), some (.int (y : Int)), none, none, none, none] _ _
    walk_at "l"
    refine ⟨rfl, ?_⟩
    walk_at "s"
    refine t_list T (hat r (List.mem_of_getElem? hr2)) fun e T => ?_
    refine ⟨_, T.get (i := 1) rfl, Nat.lt_of_lt_of_le (show (refs ks).length < 100000 by rw [refs_len]; omega) (by decide), ks ++ [(e, r.2)], ?_, ?_⟩
    · rw [nums_snoc, List.take_add_one, hks, nums_get hr2]
      rfl
    · have T := T.mut 1 rfl (o' := .lst (refs ks ++ [.ref e]))
      rw [refs_snoc, lays_snoc, ← List.append_assoc]
      exact T.perm (List.perm_append_singleton _ _).symm
  clear T
  rintro H8 ⟨ks, hks, T⟩
  rw [List.take_of_length_le (by rw [nums_len, refs_len]; exact Nat.le_refl _)] at hks
  have hkn : ks.length = rs.length := by rw [← nums_len ks, hks, nums_len]
  have hkr : (refs ks).length = rs.length := by rw [refs_len, hkn]
  walk_at "l"
  refine x_ixT (by walk_at "fact") (atI_nat (j := 1) rfl) ?_
  walk_at "l"
  rename_i la T
  rw [Int.toNat_natCast]
  refine for_range (fun i σ' H' => (∃ z, σ' = [some (.ref a), some (.int (b : Int)), some (.int (k0 : Int)), some (.ref p1), some (.ref p2), y5, some (.ref hd), some (.ref t), some (.int (x : Int)), some (.int (y : Int)), z10, some (.ref D), some (.ref la), z]) ∧
    Trk H H' ((la, .lst (dig b g)) :: (D, .lst (refs ks)) :: (t, .tup [.ref l, .ref h]) :: (l, .lst (refs rs)) :: (h, .lst (dig b g)) :: (hd, .lst [.ref h1, .ref h2]) :: (h2, .lst (dig b y)) :: (h1, .lst (dig b x)) :: (p2, .lst (dig b y)) :: (p1, .lst (dig b x)) :: (lays b (rs.drop i) ++ lays b ks))) ⟨⟨none, rfl⟩, T⟩ ?_ ?_
  · clear T
    rintro i σ' H' hi ⟨⟨z, rfl⟩, T⟩
    rw [Int.zero_add]
    have hi2 : i < rs.length := by omega
    have e := List.drop_eq_getElem_cons hi2
    have hg2 := List.getElem?_eq_getElem hi2
    generalize rs[i] = r at *
    rw [e] at T
    have hrB : r.2 ≤ max x y := lad_mem hlad _ (by rw [← hnum]; exact List.mem_map_of_mem (List.mem_of_getElem? hg2))
    have hrl2 : (dig b r.2).length ≤ 25 := by
      rw [show (dig b r.2).length = (digits b r.2).length from iv_length _]
      exact lB _ hrB
    have hrt : H' r.1 = some (.lst (dig b r.2)) := T.get (i := 10) rfl
    walk_at "l"
    refine x_ixT (by walk_at "fact") (atI_nat (j := 0) rfl) ?_
    walk_at "l"
    refine x_ix (by walk_at "fact") (atI_nat (refs_get hg2)) ?_
    walk_at "l"
    refine t_app (i := 10) T (by exact rfl) (by omega) fun T => ?_
    have T : Trk H _ ((la, .lst (dig b g)) :: (D, .lst (refs ks)) :: (t, .tup [.ref l, .ref h]) :: (l, .lst (refs rs)) :: (h, .lst (dig b g)) :: (hd, .lst [.ref h1, .ref h2]) :: (h2, .lst (dig b y)) :: (h1, .lst (dig b x)) :: (p2, .lst (dig b y)) :: (p1, .lst (dig b x)) :: (r.1, .lst (dig b r.2 ++ [V.int 1])) :: (lays b (rs.drop (i + 1)) ++ lays b ks)) := T
    have T := T.sub (L' := (la, .lst (dig b g)) :: (D, .lst (refs ks)) :: (t, .tup [.ref l, .ref h]) :: (l, .lst (refs rs)) :: (h, .lst (dig b g)) :: (hd, .lst [.ref h1, .ref h2]) :: (h2, .lst (dig b y)) :: (h1, .lst (dig b x)) :: (p2, .lst (dig b y)) :: (p1, .lst (dig b x)) :: (lays b (rs.drop (i + 1)) ++ lays b ks)) (.cons₂ _ (.cons₂ _ (.cons₂ _ (.cons₂ _ (.cons₂ _ (.cons₂ _ (.cons₂ _ (.cons₂ _ (.cons₂ _ (.cons₂ _ (.cons _ (.refl _))))))))))))
    walk_at "l"
    refine x_ixT (by walk_at "fact") (atI_nat (j := 0) rfl) ?_
    walk_at "l"
    refine t_cut T (by walk_at "fact") fun c1 T => ?_
    rw [show ((i : Int) + 1) = ((i + 1 : Nat) : Int) from rfl, cut_from, refs_drop] at T ⊢
    walk_at "l"
    refine t_cut T (by walk_at "fact") fun c2 T => ?_
    rw [show ((i : Int) + 1) = ((i + 1 : Nat) : Int) from rfl, cut_from, refs_drop] at T ⊢
    walk_at "l"
    refine x_neR (b := b) (rs := rs.drop (i + 1)) (ks := ks.drop (i + 1)) (by walk_at "fact") (Trk.rows T (fun e he => by simp only [List.mem_cons, List.mem_append, he, or_true, true_or])) (by walk_at "fact") (fun r hr => Trk.rows (rs := ks) T (fun e he => by simp only [List.mem_cons, List.mem_append, he, or_true, true_or]) r (List.mem_of_mem_drop hr)) (by rw [nums_drop, nums_drop, hks]) ?_
    walk_at "l"
    refine x_ixT (by walk_at "fact") (atI_nat (j := 1) rfl) ?_
    walk_at "l"
    refine x_neL (l := digits b g) (m := digits b g) (by walk_at "fact") (by walk_at "fact") ?_
    rw [decide_eq_true rfl]
    walk_at "l"
    exact ⟨⟨_, rfl⟩, T.drop 2⟩
  clear T
  rintro σ' H9 ⟨⟨z13, rfl⟩, T⟩
  have hgl := lB g hg
  walk_at "l"
  refine x_ixT (by walk_at "fact") (atI_nat (j := 1) rfl) ?_
  walk_at "l"
  refine x_neLL (by walk_at "fact") (by walk_at "fact") (by walk_at "fact") (by walk_at "fact") (by walk_at "fact") (by walk_at "fact") ?_
  walk_at "l"
  rename_i T
  refine ⟨b, y, 0, y, [], _, _, rfl, hb, by walk_at "fact", by rw [show dig b 0 = [] by unfold dig; rw [digits_zero]; rfl]; walk_at "fact", by omega, by rw [digits_zero]; decide, .nil y, by decide, fun t2 l2 h2' rs2 H10 hn2 T2 => ?_⟩
  have hrs2 : rs2 = [] := by
    have := congrArg List.length hn2
    rw [nums_len] at this
    exact List.eq_nil_of_length_eq_zero this
  subst hrs2
  have T := T.comp T2
  walk_at "l"
  refine x_neT (b := b) (rs := []) (ks := []) (xs := digits b y) (by walk_at "fact") (by walk_at "fact") (fun _ h => nomatch h) (by walk_at "fact") (by walk_at "fact") (by walk_at "fact") (fun _ h => nomatch h) (by walk_at "fact") rfl ?_
  walk_at "l"
  rename_i T
  refine ⟨b, x, y, g, qs, _, _, rfl, hb, by walk_at "fact", by walk_at "fact", by omega, by omega, hlad, by omega, fun t3 l3 h3 rs3 H11 hn3 T3 => ?_⟩
  have T := (T.comp T3).perm (((List.perm_append_comm.cons _).cons _).cons _)
  walk_at "l"
  rename_i T
  refine x_eqT (b := b) (rs := rs3) (ks := ks) (xs := digits b g) (by walk_at "fact") (by walk_at "fact") (Trk.rows T (fun e he => by simp only [List.mem_cons, List.mem_append, he, or_true, true_or])) (by walk_at "fact") (by walk_at "fact") (by walk_at "fact") (Trk.rows T (fun e he => by simp only [List.mem_cons, List.mem_append, List.set_cons_succ, List.set_cons_zero, he, or_true, true_or])) (by walk_at "fact") (by rw [hn3, hks, hnum]) ?_
  exact q _
def d_is_whole : He.DefD := ⟨("is_whole", none), "is_whole", "is_whole", defArgs s_is_whole, defBody s_is_whole, defScope s_is_whole, [], []⟩
def d_is_base : He.DefD := ⟨("is_base", none), "is_base", "is_base", defArgs s_is_base, defBody s_is_base, defScope s_is_base, [], []⟩
def d_need_base : He.DefD := ⟨("need_base", none), "need_base", "need_base", defArgs s_need_base, defBody s_need_base, defScope s_need_base, [], []⟩
def d_is_figure : He.DefD := ⟨("is_figure", none), "is_figure", "is_figure", defArgs s_is_figure, defBody s_is_figure, defScope s_is_figure, [], []⟩
def d_is_row : He.DefD := ⟨("is_row", none), "is_row", "is_row", defArgs s_is_row, defBody s_is_row, defScope s_is_row, [], []⟩
def d_need_row : He.DefD := ⟨("need_row", none), "need_row", "need_row", defArgs s_need_row, defBody s_need_row, defScope s_need_row, [], []⟩
def d_trimmed : He.DefD := ⟨("trimmed", none), "trimmed", "trimmed", defArgs s_trimmed, defBody s_trimmed, defScope s_trimmed, [], []⟩
def d_order : He.DefD := ⟨("order", none), "order", "order", defArgs s_order, defBody s_order, defScope s_order, [], []⟩
def d_figure_at : He.DefD := ⟨("figure_at", none), "figure_at", "figure_at", defArgs s_figure_at, defBody s_figure_at, defScope s_figure_at, [], []⟩
def d_less_by : He.DefD := ⟨("less_by", none), "less_by", "less_by", defArgs s_less_by, defBody s_less_by, defScope s_less_by, [], []⟩
def d_times : He.DefD := ⟨("times", none), "times", "times", defArgs s_times, defBody s_times, defScope s_times, [], []⟩
def d_top_of : He.DefD := ⟨("top_of", none), "top_of", "top_of", defArgs s_top_of, defBody s_top_of, defScope s_top_of, [], []⟩
def d_often : He.DefD := ⟨("often", none), "often", "often", defArgs s_often, defBody s_often, defScope s_often, [], []⟩
def d_shares : He.DefD := ⟨("shares", none), "shares", "shares", defArgs s_shares, defBody s_shares, defScope s_shares, [], []⟩
def d_ladder : He.DefD := ⟨("ladder", none), "ladder", "ladder", defArgs s_ladder, defBody s_ladder, defScope s_ladder, [], []⟩
def d__law_draw : He.DefD := ⟨("_law_draw", none), "_law_draw", "_law_draw", defArgs s__law_draw, defBody s__law_draw, defScope s__law_draw, [], []⟩
def d__law_base_by : He.DefD := ⟨("_law_base_by", none), "_law_base_by", "_law_base_by", defArgs s__law_base_by, defBody s__law_base_by, defScope s__law_base_by, [], []⟩
def d__law_row_by : He.DefD := ⟨("_law_row_by", none), "_law_row_by", "_law_row_by", defArgs s__law_row_by, defBody s__law_row_by, defScope s__law_row_by, [], []⟩
def d__law_cut : He.DefD := ⟨("_law_cut", none), "_law_cut", "_law_cut", defArgs s__law_cut, defBody s__law_cut, defScope s__law_cut, [], []⟩
def d__law_number : He.DefD := ⟨("_law_number", none), "_law_number", "_law_number", defArgs s__law_number, defBody s__law_number, defScope s__law_number, [], []⟩
def d__law_figures : He.DefD := ⟨("_law_figures", none), "_law_figures", "_law_figures", defArgs s__law_figures, defBody s__law_figures, defScope s__law_figures, [], []⟩
def d__law_is_number : He.DefD := ⟨("_law_is_number", none), "_law_is_number", "_law_is_number", defArgs s__law_is_number, defBody s__law_is_number, defScope s__law_is_number, [], []⟩
def d__law_is_row : He.DefD := ⟨("_law_is_row", none), "_law_is_row", "_law_is_row", defArgs s__law_is_row, defBody s__law_is_row, defScope s__law_is_row, [], []⟩
def d_law : He.DefD := ⟨("law", none), "law", "law", defArgs s_law, defBody s_law, defScope s_law, [], []⟩
def fn : List He.DefD := [d_is_whole, d_is_base, d_need_base, d_is_figure, d_is_row, d_need_row, d_trimmed, d_order, d_figure_at, d_less_by, d_times, d_top_of, d_often, d_shares, d_ladder, d__law_draw, d__law_base_by, d__law_row_by, d__law_cut, d__law_number, d__law_figures, d__law_is_number, d__law_is_row, d_law]
def fa : List He.Fa := [.glo "is_whole", .glo "is_base", .glo "need_base", .glo "is_figure", .glo "is_row", .glo "need_row", .glo "trimmed", .glo "order", .glo "figure_at", .glo "less_by", .glo "times", .glo "top_of", .glo "often", .glo "shares", .glo "ladder", .glo "_law_draw", .glo "_law_base_by", .glo "_law_row_by", .glo "_law_cut", .glo "_law_number", .glo "_law_figures", .glo "_law_is_number", .glo "_law_is_row", .glo "law", .free "len", .free "range", .free "int", .free "reversed", .free "isinstance", .free "max", .free "min", .free "bool", .int "LEAST_BASE" 2, .int "MOST_BASE" 1000000, .free "list", .free "tuple"]
def loose0 : List PySem.Str := ["RowError", "NoBase", "NoRow", "LEAST_BASE", "MOST_BASE", "is_whole", "is_base", "need_base", "is_figure", "is_row", "need_row", "trimmed", "order", "figure_at", "less_by", "times", "top_of", "often", "shares", "ladder", "_law_draw", "_law_base_by", "_law_row_by", "_law_cut", "_law_number", "_law_figures", "_law_is_number", "_law_is_row"]
def loose : List PySem.Str := loose0
abbrev R : PySem.W.OpenRow := PySem.W.OpenLaw.row PySem.Challenge.rw_figrow_k11_whole_ladders
abbrev hk : PySem.W.Hook := He.hookD 4 fa fn
def ob (s : PySem.W.SharedT) : He.AlD := He.obsDG 4 fa fn (HandSHeadRun.getT s)
theorem ob_eq (s : PySem.W.SharedT) : ob s = hk.obs s.abs := He.obsDG_eq (HandSHeadRun.getT_eq s)
theorem run (w : World) : HandSHeadRun.RunEq R (PySem.W.view R.prog [33]) hk ob 4000 loose w := by
  intro os
  kernel_rfl
theorem facts {P : Program} {w : World} {K : PySem.W.Frag} {h : Heap} {mg : Str → Option Value} {f : Addr} (X : K.In h) (G : h.Ns mainGlobals mg) (hfa : mg ("law" : Str) = some (.ref f)) (c : He.SaysD fa fn K) :
    ∃ fd : FuncData, (∀ (s : Shared) (v : Value), BindsTo s fd ⟨[v], []⟩ [("_law_script", v)]) ∧ ∀ base : Heap, K.In base → base.Ns mainGlobals mg → FnOk P w K mg base CX0 8 f fd ["_law_script"] (spLaw K) := by
  have D_is_whole : Dfn K mg "is_whole" s_is_whole := Dfn.of c X G 0 0 rfl rfl
  have D_is_base : Dfn K mg "is_base" s_is_base := Dfn.of c X G 1 1 rfl rfl
  have D_need_base : Dfn K mg "need_base" s_need_base := Dfn.of c X G 2 2 rfl rfl
  have D_is_figure : Dfn K mg "is_figure" s_is_figure := Dfn.of c X G 3 3 rfl rfl
  have D_is_row : Dfn K mg "is_row" s_is_row := Dfn.of c X G 4 4 rfl rfl
  have D_need_row : Dfn K mg "need_row" s_need_row := Dfn.of c X G 5 5 rfl rfl
  have D_trimmed : Dfn K mg "trimmed" s_trimmed := Dfn.of c X G 6 6 rfl rfl
  have D_order : Dfn K mg "order" s_order := Dfn.of c X G 7 7 rfl rfl
  have D_figure_at : Dfn K mg "figure_at" s_figure_at := Dfn.of c X G 8 8 rfl rfl
  have D_less_by : Dfn K mg "less_by" s_less_by := Dfn.of c X G 9 9 rfl rfl
  have D_times : Dfn K mg "times" s_times := Dfn.of c X G 10 10 rfl rfl
  have D_top_of : Dfn K mg "top_of" s_top_of := Dfn.of c X G 11 11 rfl rfl
  have D_often : Dfn K mg "often" s_often := Dfn.of c X G 12 12 rfl rfl
  have D_shares : Dfn K mg "shares" s_shares := Dfn.of c X G 13 13 rfl rfl
  have D_ladder : Dfn K mg "ladder" s_ladder := Dfn.of c X G 14 14 rfl rfl
  have D__law_draw : Dfn K mg "_law_draw" s__law_draw := Dfn.of c X G 15 15 rfl rfl
  have D__law_base_by : Dfn K mg "_law_base_by" s__law_base_by := Dfn.of c X G 16 16 rfl rfl
  have D__law_row_by : Dfn K mg "_law_row_by" s__law_row_by := Dfn.of c X G 17 17 rfl rfl
  have D__law_cut : Dfn K mg "_law_cut" s__law_cut := Dfn.of c X G 18 18 rfl rfl
  have D__law_number : Dfn K mg "_law_number" s__law_number := Dfn.of c X G 19 19 rfl rfl
  have D__law_figures : Dfn K mg "_law_figures" s__law_figures := Dfn.of c X G 20 20 rfl rfl
  have D__law_is_number : Dfn K mg "_law_is_number" s__law_is_number := Dfn.of c X G 21 21 rfl rfl
  have D__law_is_row : Dfn K mg "_law_is_row" s__law_is_row := Dfn.of c X G 22 22 rfl rfl
  have m_len : mg "len" = none := free_of c X G 24 rfl
  have m_range : mg "range" = none := free_of c X G 25 rfl
  have m_int : mg "int" = none := free_of c X G 26 rfl
  have m_reversed : mg "reversed" = none := free_of c X G 27 rfl
  have m_isinstance : mg "isinstance" = none := free_of c X G 28 rfl
  have m_max : mg "max" = none := free_of c X G 29 rfl
  have m_min : mg "min" = none := free_of c X G 30 rfl
  have m_bool : mg "bool" = none := free_of c X G 31 rfl
  have gc_LEAST_BASE := int_of (x := "LEAST_BASE") (i := 2) c X G 32 rfl
  have gc_MOST_BASE := int_of (x := "MOST_BASE") (i := 1000000) c X G 33 rfl
  have m_list : mg "list" = none := free_of c X G 34 rfl
  have m_tuple : mg "tuple" = none := free_of c X G 35 rfl
  obtain ⟨fd, F⟩ := c.def_ 23 (d := d_law) rfl
  have e := hfa.symm.trans (He.glo_ok X G (c.fact 23 (f := .glo "law") rfl))
  cases e
  have b := FunD.bindsA (ps := ["_law_script"]) F fun _ _ _ _ _ _ us hl => match us, hl with | [_], _ => rfl
  refine ⟨fd, fun s v => b s [v] rfl, fun base _ _ => ?_⟩
  have C__law_draw := ok_law_draw (P := P) (w := w) (K := K) (mg := mg) (base := base) D__law_draw m_len
  have C__law_base_by := ok_law_base_by (P := P) (w := w) (K := K) (mg := mg) (base := base) D__law_base_by
  have C__law_row_by := ok_law_row_by (P := P) (w := w) (K := K) (mg := mg) (base := base) D__law_row_by m_range m_int C__law_draw
  have C__law_number := ok_law_number (P := P) (w := w) (K := K) (mg := mg) (base := base) D__law_number m_reversed
  have C__law_figures := ok_law_figures (P := P) (w := w) (K := K) (mg := mg) (base := base) D__law_figures
  have C__law_is_number := ok_law_is_number (P := P) (w := w) (K := K) (mg := mg) (base := base) D__law_is_number m_isinstance m_int
  have C_trimmed := ok_trimmed (P := P) (w := w) (K := K) (mg := mg) (base := base) D_trimmed m_len
  have C_order := ok_order (P := P) (w := w) (K := K) (mg := mg) (base := base) D_order m_len m_range
  have C_figure_at := ok_figure_at (P := P) (w := w) (K := K) (mg := mg) (base := base) D_figure_at m_len
  have C_less_by := ok_less_by (P := P) (w := w) (K := K) (mg := mg) (base := base) D_less_by m_len m_range C_figure_at C_trimmed
  have C_times := ok_times (P := P) (w := w) (K := K) (mg := mg) (base := base) D_times C_trimmed
  have C_top_of := ok_top_of (P := P) (w := w) (K := K) (mg := mg) (base := base) D_top_of m_reversed
  have C_often := ok_often (P := P) (w := w) (K := K) (mg := mg) (base := base) D_often m_len m_max m_min C_top_of C_order C_times
  have C_shares := ok_shares (P := P) (w := w) (K := K) (mg := mg) (base := base) D_shares m_len m_max m_reversed C_trimmed C_often C_less_by C_times
  have C_is_whole := ok_is_whole (P := P) (w := w) (K := K) (mg := mg) (base := base) D_is_whole m_isinstance m_int m_bool
  have C_is_base := ok_is_base (P := P) (w := w) (K := K) (mg := mg) (base := base) D_is_base gc_LEAST_BASE gc_MOST_BASE C_is_whole
  have C_need_base := ok_need_base (P := P) (w := w) (K := K) (mg := mg) (base := base) D_need_base C_is_base
  have C_is_figure := ok_is_figure (P := P) (w := w) (K := K) (mg := mg) (base := base) D_is_figure C_is_whole C_need_base
  have C_is_row := ok_is_row (P := P) (w := w) (K := K) (mg := mg) (base := base) D_is_row m_isinstance m_list C_need_base C_is_figure
  have C_need_row := ok_need_row (P := P) (w := w) (K := K) (mg := mg) (base := base) D_need_row C_is_row
  have C_ladder := ok_ladder (P := P) (w := w) (K := K) (mg := mg) (base := base) D_ladder m_list C_need_base C_need_row C_shares
  have C__law_cut := ok_law_cut (P := P) (w := w) (K := K) (mg := mg) (base := base) D__law_cut
  have C__law_is_row := ok_law_is_row (P := P) (w := w) (K := K) (mg := mg) (base := base) D__law_is_row m_isinstance m_list C__law_is_number
  exact ok_law F m_list m_len m_range m_reversed m_isinstance m_tuple C__law_draw C__law_base_by C__law_row_by C__law_cut C__law_number C__law_figures C__law_is_row C_ladder
end Fg
open PySem PySem.W PySem.Calls PyProof.Rows
set_option maxHeartbeats 0 in
theorem PySem.Challenge.cw_figrow_k11_whole_ladders_holds : PySem.Challenge.rw_figrow_k11_whole_ladders.Holds := by
  w_on; o_law
  refine HandSHeadRun.head_any (r := OpenLaw.row PySem.Challenge.rw_figrow_k11_whole_ladders) (q := view (OpenLaw.row PySem.Challenge.rw_figrow_k11_whole_ladders).prog [33]) (H := Fg.hk) (ob := Fg.ob) (M := 4000) (loose := Fg.loose) (d := HandSHeadRun.topDef (OpenLaw.row PySem.Challenge.rw_figrow_k11_whole_ladders).prog 33) (kwd := []) Fg.ob_eq
    (by kernel_rfl) (fun s => by kernel_rfl) Fg.run (by kernel_rfl) (by kernel_rfl) (by kernel_rfl) (by rfl) (by first | assumption | decide +kernel) (by decide +kernel) ⟨rfl, rfl, rfl, rfl, rfl, by decide +kernel⟩ ?hw ?hc
  case hw => w_witness2
  case hc =>
    refine L2.walk_ofE (l := PySem.Challenge.rw_figrow_k11_whole_ladders) (n := 63) (k := 8) (x := "_law_script") (CX := L2.CX0) rfl (by decide) (by kernel_rfl) ⟨rfl, by decide, by decide⟩ ?F (fun _ _ _ _ z => z)
    intro w mg fa h Y G hmg0
    obtain ⟨K, KX, c⟩ := Y
    have hmg : mg ("law" : PySem.Str) = some (.ref fa) := by
      have e : (HandSHeadRun.topDef (OpenLaw.row PySem.Challenge.rw_figrow_k11_whole_ladders).prog 33).name = ("law" : PySem.Str) := by kernel_rfl
      rw [← e]
      exact hmg0
    obtain ⟨fd, hb, hF⟩ := Fg.facts (P := (PySem.Challenge.rw_figrow_k11_whole_ladders).prog) (w := w) KX G hmg c
    exact ⟨K, fd, Fg.spLaw K, KX, hb, fun H a ns hl _ hS => ⟨a, ns, rfl, hS, fun _ => rfl⟩, hF⟩
