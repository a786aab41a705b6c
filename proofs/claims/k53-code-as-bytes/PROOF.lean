import PyProof.Rows.All
import Wide.All
import OpenK.AllK
import Wide.FinOn
import HandS.ForMost
import HandS.ForExc
import KE.GoesComp
import KE.GoesRaise
import PyProof.LongRange
import HandS.More
import HandS.IsInst
import HandS.ExcIs
import HandS.Strs
import HandS.Conv
import HandS.TupAny
import HandS.Codes
import HandS.Walk
import PySem.Challenge.RW_tapline_k53_code_as_bytes_and_back
set_option Elab.async false
set_option linter.all false
set_option maxRecDepth 100000
set_option maxHeartbeats 4000000
/-! K53Math: the plain mathematics: code as data, its bytes, the reader of bytes. Core Lean alone. -/
namespace K53

/-! ### counts -/
def cb (n : Nat) : List Nat := if h : n ≤ 127 then [n] else (128 + n % 128) :: cb (n / 128)
termination_by n
decreasing_by omega
theorem cb_small {n : Nat} (h : n ≤ 127) : cb n = [n] := by rw [cb, dif_pos h]
theorem cb_big {n : Nat} (h : ¬ n ≤ 127) : cb n = (128 + n % 128) :: cb (n / 128) := by rw [cb, dif_neg h]

abbrev P (α : Type) := List Nat → Option (α × List Nat)

def pTake : P Nat
  | [] => none
  | b :: r => some (b, r)
def pChoice (m : Nat) : P Nat
  | [] => none
  | b :: r => if b < m then some (b, r) else none
def pCnt : P Nat
  | [] => none
  | b :: r => if b < 128 then some (b, r) else
    match pCnt r with
    | none => none
    | some (n, r') => some (b % 128 + 128 * n, r')
theorem pCnt_cb (r : List Nat) : ∀ n, pCnt (cb n ++ r) = some (n, r) := by
  intro n
  induction n using Nat.strongRecOn with
  | ind n ih =>
    by_cases h : n ≤ 127
    · rw [cb_small h]
      have : n < 128 := by omega
      simp [pCnt, this]
    · rw [cb_big h, List.cons_append]
      have q := ih (n / 128) (by omega)
      have h2 : ¬ (128 + n % 128 < 128) := by omega
      simp only [pCnt, q, if_neg h2]
      have e : (128 + n % 128) % 128 + 128 * (n / 128) = n := by omega
      rw [e]
theorem cb_pos : ∀ n, 1 ≤ (cb n).length := by
  intro n
  by_cases h : n ≤ 127
  · rw [cb_small h]; exact Nat.le_refl _
  · rw [cb_big h]; simp
theorem pCnt_len : ∀ {l : List Nat} {n : Nat} {r : List Nat}, pCnt l = some (n, r) → (cb n).length + r.length ≤ l.length
  | [], n, r, h => by simp [pCnt] at h
  | b :: l, n, r, h => by
    by_cases hb : b < 128
    · simp only [pCnt, if_pos hb, Option.some.injEq, Prod.mk.injEq] at h
      obtain ⟨rfl, rfl⟩ := h
      rw [cb_small (by omega)]
      simp; omega
    · cases q : pCnt l with
      | none => simp [pCnt, hb, q] at h
      | some z =>
        obtain ⟨m, r'⟩ := z
        simp only [pCnt, if_neg hb, q, Option.some.injEq, Prod.mk.injEq] at h
        obtain ⟨rfl, rfl⟩ := h
        have ih := pCnt_len q
        have p1 := cb_pos m
        by_cases hn : b % 128 + 128 * m ≤ 127
        · rw [cb_small hn]
          simp only [List.length_cons, List.length_nil]
          omega
        · rw [cb_big hn]
          have e : (b % 128 + 128 * m) / 128 = m := by omega
          rw [e]
          simp only [List.length_cons]
          omega
theorem cb_bound : ∀ (L n : Nat), (cb n).length ≤ L → n < 128 ^ L := by
  intro L
  induction L with
  | zero => intro n h; have := cb_pos n; omega
  | succ L ih =>
    intro n h
    by_cases hn : n ≤ 127
    · have : 128 ^ 1 ≤ 128 ^ (L + 1) := Nat.pow_le_pow_right (by omega) (by omega)
      omega
    · rw [cb_big hn] at h
      have q := ih (n / 128) (by simpa using h)
      rw [Nat.pow_succ]
      omega
/-- all but the last byte go on -/
theorem cb_form : ∀ n, ∃ w b, cb n = w ++ [b] ∧ (∀ x ∈ w, 128 ≤ x ∧ x < 256) ∧ b < 128 := by
  intro n
  induction n using Nat.strongRecOn with
  | ind n ih =>
    by_cases h : n ≤ 127
    · exact ⟨[], n, by rw [cb_small h]; rfl, by simp, by omega⟩
    · obtain ⟨w, b, e, hw, hb⟩ := ih (n / 128) (by omega)
      refine ⟨(128 + n % 128) :: w, b, by rw [cb_big h, e]; rfl, ?_, hb⟩
      intro x hx
      rcases List.mem_cons.mp hx with rfl | hx
      · omega
      · exact hw x hx
theorem cb_byte {n x : Nat} (h : x ∈ cb n) : x < 256 := by
  obtain ⟨w, b, e, hw, hb⟩ := cb_form n
  rw [e] at h
  rcases List.mem_append.mp h with h | h
  · exact (hw x h).2
  · simp at h; omega

/-! ### rows of things -/
def pSeq {α : Type} (f : Nat → P α) : Nat → P (List α)
  | 0, r => some ([], r)
  | n + 1, r =>
    match pSeq f n r with
    | none => none
    | some (xs, r1) =>
      match f n r1 with
      | none => none
      | some (x, r2) => some (xs ++ [x], r2)
section
variable {α : Type} {f : Nat → P α}
theorem pSeq_succ {n : Nat} {r : List Nat} {xs : List α} {r1 : List Nat} (h : pSeq f n r = some (xs, r1)) :
    pSeq f (n + 1) r = match f n r1 with | none => none | some (x, r2) => some (xs ++ [x], r2) := by
  show (match pSeq f n r with | none => none | some (xs, r1) => match f n r1 with | none => none | some (x, r2) => some (xs ++ [x], r2)) = _
  rw [h]
theorem pSeq_none {i n : Nat} {r : List Nat} (h : pSeq f i r = none) (hn : i ≤ n) : pSeq f n r = none := by
  induction n with
  | zero =>
    have : i = 0 := by omega
    subst this
    exact h
  | succ n ih =>
    by_cases e : i = n + 1
    · subst e; exact h
    · show (match pSeq f n r with | none => none | some (xs, r1) => match f n r1 with | none => none | some (x, r2) => some (xs ++ [x], r2)) = _
      rw [ih (by omega)]
theorem pSeq_stop {i n : Nat} {r r1 : List Nat} {xs : List α} (h : pSeq f i r = some (xs, r1)) (hi : f i r1 = none) (hn : i < n) : pSeq f n r = none :=
  pSeq_none (i := i + 1) (by rw [pSeq_succ h, hi]) hn
theorem pSeq_inv {n : Nat} {r r2 : List Nat} {ys : List α} (h : pSeq f (n + 1) r = some (ys, r2)) : ∃ xs x r1, pSeq f n r = some (xs, r1) ∧ f n r1 = some (x, r2) ∧ ys = xs ++ [x] := by
  cases q : pSeq f n r with
  | none => rw [pSeq_none q (Nat.le_succ n)] at h; cases h
  | some z =>
    obtain ⟨xs, r1⟩ := z
    rw [pSeq_succ q] at h
    cases q2 : f n r1 with
    | none => rw [q2] at h; cases h
    | some z =>
      obtain ⟨x, r2'⟩ := z
      rw [q2] at h
      simp only [Option.some.injEq, Prod.mk.injEq] at h
      exact ⟨xs, x, r1, rfl, by rw [q2, h.2], h.1.symm⟩
theorem pSeq_length : ∀ {n : Nat} {r r' : List Nat} {xs : List α}, pSeq f n r = some (xs, r') → xs.length = n
  | 0, r, r', xs, h => by simp [pSeq] at h; rw [h.1]; rfl
  | n + 1, r, r', ys, h => by
    obtain ⟨xs, x, r1, h1, h2, rfl⟩ := pSeq_inv h
    simp [pSeq_length h1]
/-- the lengths: what is read is at least as long as what it is written as -/
theorem pSeq_len {e : α → List Nat} (hf : ∀ i l x l', f i l = some (x, l') → (e x).length + l'.length ≤ l.length) :
    ∀ {n : Nat} {r r' : List Nat} {xs : List α}, pSeq f n r = some (xs, r') → (xs.flatMap e).length + r'.length ≤ r.length
  | 0, r, r', xs, h => by simp [pSeq] at h; rw [h.1, h.2]; simp
  | n + 1, r, r', ys, h => by
    obtain ⟨xs, x, r1, h1, h2, rfl⟩ := pSeq_inv h
    have a := pSeq_len hf h1
    have b := hf _ _ _ _ h2
    simp only [List.flatMap_append, List.length_append, List.flatMap_cons, List.flatMap_nil, List.append_nil]
    omega
/-- each takes a byte at least -/
theorem pSeq_many (hf : ∀ i l x l', f i l = some (x, l') → 1 + l'.length ≤ l.length) :
    ∀ {n : Nat} {r r' : List Nat} {xs : List α}, pSeq f n r = some (xs, r') → n + r'.length ≤ r.length
  | 0, r, r', xs, h => by simp [pSeq] at h; rw [h.2]; simp
  | n + 1, r, r', ys, h => by
    obtain ⟨xs, x, r1, h1, h2, rfl⟩ := pSeq_inv h
    have a := pSeq_many hf h1
    have b := hf _ _ _ _ h2
    omega
theorem pSeq_all {Q : Nat → α → Prop} (hf : ∀ i l x l', f i l = some (x, l') → Q i x) :
    ∀ {n : Nat} {r r' : List Nat} {xs : List α}, pSeq f n r = some (xs, r') → ∀ i x, xs[i]? = some x → Q i x
  | 0, r, r', xs, h, i, x, hx => by simp [pSeq] at h; rw [h.1] at hx; simp at hx
  | n + 1, r, r', ys, h, i, x, hx => by
    obtain ⟨xs, y, r1, h1, h2, rfl⟩ := pSeq_inv h
    have hl := pSeq_length h1
    by_cases hi : i < n
    · rw [List.getElem?_append_left (by omega)] at hx
      exact pSeq_all hf h1 i x hx
    · rw [List.getElem?_append_right (by omega)] at hx
      by_cases e : i = n
      · subst e
        rw [hl, Nat.sub_self] at hx
        simp at hx
        subst hx
        exact hf _ _ _ _ h2
      · have : i - xs.length ≠ 0 := by omega
        obtain ⟨k, hk⟩ : ∃ k, i - xs.length = k + 1 := ⟨i - xs.length - 1, by omega⟩
        rw [hk] at hx
        simp at hx
/-- what is left holds bytes that were there -/
theorem pSeq_sub {Q : Nat → Prop} (hf : ∀ i l x l', (∀ b ∈ l, Q b) → f i l = some (x, l') → ∀ b ∈ l', Q b) :
    ∀ {n : Nat} {r r' : List Nat} {xs : List α}, (∀ b ∈ r, Q b) → pSeq f n r = some (xs, r') → ∀ b ∈ r', Q b
  | 0, r, r', xs, hr, h => by simp [pSeq] at h; rw [← h.2]; exact hr
  | n + 1, r, r', ys, hr, h => by
    obtain ⟨xs, x, r1, h1, h2, rfl⟩ := pSeq_inv h
    exact hf _ _ _ _ (pSeq_sub hf hr h1) h2
theorem pSeq_round {e : α → List Nat} (xs : List α) (r : List Nat) (hf : ∀ i x, xs[i]? = some x → ∀ r, f i (e x ++ r) = some (x, r)) :
    pSeq f xs.length (xs.flatMap e ++ r) = some (xs, r) := by
  have key : ∀ n, n ≤ xs.length → pSeq f n (xs.flatMap e ++ r) = some (xs.take n, (xs.drop n).flatMap e ++ r) := by
    intro n
    induction n with
    | zero => intro _; simp [pSeq]
    | succ n ih =>
      intro hn
      have hlt : n < xs.length := by omega
      rw [pSeq_succ (ih (by omega))]
      have hd : xs.drop n = xs[n] :: xs.drop (n + 1) := List.drop_eq_getElem_cons hlt
      have hx : xs[n]? = some xs[n] := by simp [hlt]
      rw [hd, List.flatMap_cons, List.append_assoc, hf n _ hx]
      simp only [List.take_succ, hx, Option.toList]
  rw [key xs.length (Nat.le_refl _)]
  simp
end

/-! ### parts -/
inductive Srt where
  | d | a | mb | k | p | i | t | value | word | sign | compare | sort | keys | members
  deriving DecidableEq
inductive Prt where
  | reg (n : Int) | cnt (n : Nat) | val (i : Int) | txt (s : List Nat) | wrd (c j : Nat) | pls (l : List Nat)
  deriving DecidableEq
/-- how many words a choice has -/
def nC : Nat → Nat
  | 0 => 6
  | 1 => 5
  | 2 => 6
  | 3 => 2
  | _ => 0
def okChar (b : Nat) : Bool := (decide (32 ≤ b) && decide (b < 127)) && (b != 34 && b != 37 && b != 92)
def pChar : P Nat
  | [] => none
  | b :: r => if okChar b = true then some (b, r) else none
def le : List Nat → Nat
  | [] => 0
  | b :: r => b + 256 * le r
theorem le_snoc (x : Nat) : ∀ l : List Nat, le (l ++ [x]) = le l + x * 256 ^ l.length
  | [] => by simp [le]
  | b :: r => by
    simp only [List.cons_append, le, le_snoc x r, List.length_cons, Nat.pow_succ]
    rw [Nat.mul_add, ← Nat.add_assoc]
    congr 1
    rw [Nat.mul_comm 256 (x * 256 ^ r.length), Nat.mul_assoc]
def signed (n : Nat) : Int := if 2 ^ 63 ≤ n then (n : Int) - 2 ^ 64 else (n : Int)
def leB : Nat → Nat → List Nat
  | 0, _ => []
  | k + 1, n => n % 256 :: leB k (n / 256)
theorem leB_length : ∀ k n, (leB k n).length = k
  | 0, _ => rfl
  | k + 1, n => by simp [leB, leB_length k]
theorem leB_byte : ∀ {k n x : Nat}, x ∈ leB k n → x < 256
  | 0, n, x, h => by simp [leB] at h
  | k + 1, n, x, h => by
    simp only [leB, List.mem_cons] at h
    rcases h with rfl | h
    · omega
    · exact leB_byte h
theorem le_leB : ∀ k n, n < 256 ^ k → le (leB k n) = n
  | 0, n, h => by simp at h; simp [leB, le, h]
  | k + 1, n, h => by
    have q := le_leB k (n / 256) (by rw [Nat.pow_succ] at h; omega)
    simp only [leB, le, q]
    omega
theorem leB_snoc : ∀ k n, leB (k + 1) n = leB k n ++ [n / 256 ^ k % 256]
  | 0, n => by simp [leB]
  | k + 1, n => by
    have ih := leB_snoc k (n / 256)
    have e : leB (k + 1 + 1) n = n % 256 :: leB (k + 1) (n / 256) := rfl
    rw [e, ih, Nat.div_div_eq_div_mul]
    have e2 : 256 * 256 ^ k = 256 ^ (k + 1) := by rw [Nat.pow_succ, Nat.mul_comm]
    rw [e2]
    rfl
theorem le_lt : ∀ l : List Nat, (∀ b ∈ l, b < 256) → le l < 256 ^ l.length
  | [], _ => by simp [le]
  | b :: r, h => by
    have q := le_lt r fun x hx => h x (List.mem_cons_of_mem _ hx)
    have hb := h b List.mem_cons_self
    simp only [le, List.length_cons, Nat.pow_succ]
    omega
/-- the number of a value, as it is written -/
def unsig (i : Int) : Nat := (i % 2 ^ 64).toNat
theorem signed_unsig {i : Int} (h1 : -2 ^ 63 ≤ i) (h2 : i < 2 ^ 63) : signed (unsig i) = i := by
  unfold signed unsig
  have e63 : (2 : Int) ^ 63 = 9223372036854775808 := by decide
  have e64 : (2 : Int) ^ 64 = 18446744073709551616 := by decide
  have n63 : (2 : Nat) ^ 63 = 9223372036854775808 := by decide
  rw [e63] at h1 h2
  rw [e64, n63]
  split <;> omega
theorem unsig_lt (i : Int) : unsig i < 256 ^ 8 := by
  unfold unsig
  have e64 : (2 : Int) ^ 64 = 18446744073709551616 := by decide
  have n64 : (256 : Nat) ^ 8 = 18446744073709551616 := by decide
  rw [e64, n64]
  omega
theorem signed_range {n : Nat} (h : n < 256 ^ 8) : -2 ^ 63 ≤ signed n ∧ signed n < 2 ^ 63 := by
  unfold signed
  have e63 : (2 : Int) ^ 63 = 9223372036854775808 := by decide
  have e64 : (2 : Int) ^ 64 = 18446744073709551616 := by decide
  have n63 : (2 : Nat) ^ 63 = 9223372036854775808 := by decide
  have n64 : (256 : Nat) ^ 8 = 18446744073709551616 := by decide
  rw [n64] at h
  rw [e63, e64, n63]
  split <;> omega

def pVal : P Prt := fun l =>
  match pChoice 2 l with
  | none => none
  | some (0, r) =>
    match pSeq (fun _ => pTake) 8 r with
    | none => none
    | some (bs, r1) => some (.val (signed (le bs)), r1)
  | some (_, r) =>
    match pCnt r with
    | none => none
    | some (n, r1) =>
      match pSeq (fun _ => pChar) n r1 with
      | none => none
      | some (s, r2) => some (.txt s, r2)
def pReg (m : Bool) : P Prt
  | [] => none
  | b :: r => some (.reg (if m = true ∧ b = 255 then -1 else (b : Int)), r)
def pCntP : P Prt := fun l => match pCnt l with | none => none | some (n, r) => some (.cnt n, r)
def pWrd (c : Nat) : P Prt := fun l => match pChoice (nC c) l with | none => none | some (j, r) => some (.wrd c j, r)
def pPls : P Prt := fun l =>
  match pCnt l with
  | none => none
  | some (n, r) =>
    match pSeq (fun _ => pCnt) n r with
    | none => none
    | some (s, r1) => some (.pls s, r1)
def pPart : Srt → P Prt
  | .d => pReg false
  | .a => pReg false
  | .k => pReg false
  | .mb => pReg true
  | .p => pCntP
  | .i => pCntP
  | .t => pCntP
  | .value => pVal
  | .word => pWrd 0
  | .sign => pWrd 1
  | .compare => pWrd 2
  | .sort => pWrd 3
  | .keys => pPls
  | .members => pPls
def encP : Prt → List Nat
  | .reg n => [(n % 256).toNat]
  | .cnt n => cb n
  | .val i => 0 :: leB 8 (unsig i)
  | .txt s => 1 :: (cb s.length ++ s)
  | .wrd _ j => [j]
  | .pls l => cb l.length ++ l.flatMap cb
/-- a part is of its sort -/
def typP : Srt → Prt → Prop
  | .d, .reg n => 0 ≤ n ∧ n < 256
  | .a, .reg n => 0 ≤ n ∧ n < 256
  | .k, .reg n => 0 ≤ n ∧ n < 256
  | .mb, .reg n => -1 ≤ n ∧ n < 255
  | .p, .cnt _ => True
  | .i, .cnt _ => True
  | .t, .cnt _ => True
  | .value, .val i => -2 ^ 63 ≤ i ∧ i < 2 ^ 63
  | .value, .txt s => ∀ c ∈ s, okChar c = true
  | .word, .wrd c j => c = 0 ∧ j < 6
  | .sign, .wrd c j => c = 1 ∧ j < 5
  | .compare, .wrd c j => c = 2 ∧ j < 6
  | .sort, .wrd c j => c = 3 ∧ j < 2
  | .keys, .pls _ => True
  | .members, .pls _ => True
  | _, _ => False
/-- what has_form asks besides -/
def okP : Srt → Prt → Bool
  | .d, .reg n => decide (0 ≤ n) && decide (n ≤ 7)
  | .a, .reg n => decide (0 ≤ n) && decide (n ≤ 7)
  | .k, .reg n => decide (0 ≤ n) && decide (n ≤ 3)
  | .mb, .reg n => (decide (0 ≤ n) && decide (n ≤ 7)) || decide (n = -1)
  | .value, .txt s => decide (s.length ≤ 32)
  | _, _ => true

theorem pTake_len {l : List Nat} {x : Nat} {r : List Nat} (h : pTake l = some (x, r)) : l = x :: r := by
  cases l with
  | nil => simp [pTake] at h
  | cons b l => simp [pTake] at h; rw [h.1, h.2]
theorem pChoice_inv {m : Nat} {l : List Nat} {x : Nat} {r : List Nat} (h : pChoice m l = some (x, r)) : l = x :: r ∧ x < m := by
  cases l with
  | nil => simp [pChoice] at h
  | cons b l =>
    simp only [pChoice] at h
    split at h
    · rename_i hb
      simp at h
      rw [h.1, h.2]
      exact ⟨rfl, h.1 ▸ hb⟩
    · cases h
theorem pChar_inv {l : List Nat} {x : Nat} {r : List Nat} (h : pChar l = some (x, r)) : l = x :: r ∧ okChar x = true := by
  cases l with
  | nil => simp [pChar] at h
  | cons b l =>
    simp only [pChar] at h
    split at h
    · rename_i hb
      simp at h
      rw [h.1, h.2]
      exact ⟨rfl, h.1 ▸ hb⟩
    · cases h
theorem flat_one (s : List Nat) : s.flatMap (fun x => [x]) = s := by
  induction s with
  | nil => rfl
  | cons a r ih => rw [List.flatMap_cons, ih]; rfl
theorem pVal_inv {l r : List Nat} {x : Prt} (h : pVal l = some (x, r)) :
    (∃ l1 bs, pChoice 2 l = some (0, l1) ∧ pSeq (fun _ => pTake) 8 l1 = some (bs, r) ∧ x = .val (signed (le bs))) ∨
    ∃ l1 n l2 s, pChoice 2 l = some (1, l1) ∧ pCnt l1 = some (n, l2) ∧ pSeq (fun _ => pChar) n l2 = some (s, r) ∧ x = .txt s := by
  unfold pVal at h
  cases q : pChoice 2 l with
  | none => rw [q] at h; cases h
  | some z =>
    obtain ⟨k, l1⟩ := z
    rw [q] at h
    have hk := (pChoice_inv q).2
    match k, hk with
    | 0, _ =>
      replace h : (match pSeq (fun _ => pTake) 8 l1 with | none => none | some (bs, r1) => some (Prt.val (signed (le bs)), r1)) = some (x, r) := h
      cases q2 : pSeq (fun _ => pTake) 8 l1 with
      | none => rw [q2] at h; cases h
      | some z =>
        obtain ⟨bs, r1⟩ := z
        rw [q2] at h
        simp only [Option.some.injEq, Prod.mk.injEq] at h
        exact .inl ⟨l1, bs, rfl, by rw [q2, h.2], h.1.symm⟩
    | 1, _ =>
      replace h : (match pCnt l1 with | none => none | some (n, r1) => match pSeq (fun _ => pChar) n r1 with | none => none | some (s, r2) => some (Prt.txt s, r2)) = some (x, r) := h
      cases q2 : pCnt l1 with
      | none => rw [q2] at h; cases h
      | some z =>
        obtain ⟨n, l2⟩ := z
        rw [q2] at h
        dsimp only at h
        cases q3 : pSeq (fun _ => pChar) n l2 with
        | none => rw [q3] at h; cases h
        | some z =>
          obtain ⟨s, r2⟩ := z
          rw [q3] at h
          simp only [Option.some.injEq, Prod.mk.injEq] at h
          exact .inr ⟨l1, n, l2, s, rfl, q2, by rw [q3, h.2], h.1.symm⟩
theorem pPls_inv {l r : List Nat} {x : Prt} (h : pPls l = some (x, r)) : ∃ n l1 s, pCnt l = some (n, l1) ∧ pSeq (fun _ => pCnt) n l1 = some (s, r) ∧ x = .pls s := by
  unfold pPls at h
  cases q2 : pCnt l with
  | none => rw [q2] at h; cases h
  | some z =>
    obtain ⟨n, l2⟩ := z
    rw [q2] at h
    dsimp only at h
    cases q3 : pSeq (fun _ => pCnt) n l2 with
    | none => rw [q3] at h; cases h
    | some z =>
      obtain ⟨s, r2⟩ := z
      rw [q3] at h
      simp only [Option.some.injEq, Prod.mk.injEq] at h
      exact ⟨n, l2, s, rfl, by rw [q3, h.2], h.1.symm⟩
theorem pWrd_inv {c : Nat} {l r : List Nat} {x : Prt} (h : pWrd c l = some (x, r)) : ∃ j, l = j :: r ∧ j < nC c ∧ x = .wrd c j := by
  unfold pWrd at h
  cases q : pChoice (nC c) l with
  | none => rw [q] at h; cases h
  | some z =>
    obtain ⟨j, r1⟩ := z
    rw [q] at h
    simp only [Option.some.injEq, Prod.mk.injEq] at h
    obtain ⟨h1, h2⟩ := pChoice_inv q
    exact ⟨j, by rw [h1, h.2], h2, h.1.symm⟩
theorem pCntP_inv {l r : List Nat} {x : Prt} (h : pCntP l = some (x, r)) : ∃ n, pCnt l = some (n, r) ∧ x = .cnt n := by
  unfold pCntP at h
  cases q : pCnt l with
  | none => rw [q] at h; cases h
  | some z =>
    obtain ⟨j, r1⟩ := z
    rw [q] at h
    simp only [Option.some.injEq, Prod.mk.injEq] at h
    exact ⟨j, by rw [← h.2], h.1.symm⟩
theorem pReg_inv {m : Bool} {l r : List Nat} {x : Prt} (h : pReg m l = some (x, r)) : ∃ b, l = b :: r ∧ x = .reg (if m = true ∧ b = 255 then -1 else (b : Int)) := by
  cases l with
  | nil => simp [pReg] at h
  | cons b l =>
    simp only [pReg, Option.some.injEq, Prod.mk.injEq] at h
    exact ⟨b, by rw [h.2], h.1.symm⟩

/-! lengths -/
theorem pVal_len {l r : List Nat} {x : Prt} (h : pVal l = some (x, r)) : (encP x).length + r.length ≤ l.length := by
  rcases pVal_inv h with ⟨l1, bs, h1, h2, rfl⟩ | ⟨l1, n, l2, s, h1, h2, h3, rfl⟩
  · obtain ⟨rfl, _⟩ := pChoice_inv h1
    have a := pSeq_many (fun _ l x l' q => by rw [pTake_len q]; simp; omega) h2
    simp only [encP, List.length_cons, leB_length]
    omega
  · obtain ⟨rfl, _⟩ := pChoice_inv h1
    have a := pCnt_len h2
    have b := pSeq_len (e := fun x => [x]) (fun _ l x l' q => by rw [(pChar_inv q).1]; simp; omega) h3
    have c := pSeq_length h3
    rw [flat_one] at b
    simp only [encP, List.length_cons, List.length_append]
    rw [c] at b ⊢
    omega
theorem pPls_len {l r : List Nat} {x : Prt} (h : pPls l = some (x, r)) : (encP x).length + r.length ≤ l.length := by
  obtain ⟨n, l1, s, h1, h2, rfl⟩ := pPls_inv h
  have a := pCnt_len h1
  have b := pSeq_len (e := cb) (fun _ l x l' q => pCnt_len q) h2
  have c := pSeq_length h2
  simp only [encP, List.length_append]
  rw [c]
  omega
theorem pWrd_len {c : Nat} {l r : List Nat} {x : Prt} (h : pWrd c l = some (x, r)) : (encP x).length + r.length ≤ l.length := by
  obtain ⟨j, rfl, _, rfl⟩ := pWrd_inv h
  simp [encP]; omega
theorem pCntP_len {l r : List Nat} {x : Prt} (h : pCntP l = some (x, r)) : (encP x).length + r.length ≤ l.length := by
  obtain ⟨n, h1, rfl⟩ := pCntP_inv h
  exact pCnt_len h1
theorem pReg_len {m : Bool} {l r : List Nat} {x : Prt} (h : pReg m l = some (x, r)) : (encP x).length + r.length ≤ l.length := by
  obtain ⟨b, rfl, rfl⟩ := pReg_inv h
  simp [encP]; omega
theorem pPart_len {s : Srt} {l r : List Nat} {x : Prt} (h : pPart s l = some (x, r)) : (encP x).length + r.length ≤ l.length := by
  cases s with
  | d => exact pReg_len h
  | a => exact pReg_len h
  | k => exact pReg_len h
  | mb => exact pReg_len h
  | p => exact pCntP_len h
  | i => exact pCntP_len h
  | t => exact pCntP_len h
  | value => exact pVal_len h
  | word => exact pWrd_len h
  | sign => exact pWrd_len h
  | compare => exact pWrd_len h
  | sort => exact pWrd_len h
  | keys => exact pPls_len h
  | members => exact pPls_len h
theorem encP_pos : ∀ p : Prt, 1 ≤ (encP p).length
  | .reg n => by simp [encP]
  | .cnt n => cb_pos n
  | .val i => by simp [encP]
  | .txt s => by simp [encP]
  | .wrd _ j => by simp [encP]
  | .pls l => by have := cb_pos l.length; simp [encP]; omega

/-! what is left of bytes are bytes -/
abbrev B8 (l : List Nat) : Prop := ∀ b ∈ l, b < 256
theorem pCnt_sub {Q : Nat → Prop} : ∀ {l : List Nat} {n : Nat} {r : List Nat}, (∀ b ∈ l, Q b) → pCnt l = some (n, r) → ∀ b ∈ r, Q b
  | [], n, r, _, h => by simp [pCnt] at h
  | b :: l, n, r, hl, h => by
    by_cases hb : b < 128
    · simp only [pCnt, if_pos hb, Option.some.injEq, Prod.mk.injEq] at h
      obtain ⟨rfl, rfl⟩ := h
      exact fun x hx => hl x (List.mem_cons_of_mem _ hx)
    · cases q : pCnt l with
      | none => simp [pCnt, hb, q] at h
      | some z =>
        obtain ⟨m, r'⟩ := z
        simp only [pCnt, if_neg hb, q, Option.some.injEq, Prod.mk.injEq] at h
        obtain ⟨rfl, rfl⟩ := h
        exact pCnt_sub (fun x hx => hl x (List.mem_cons_of_mem _ hx)) q
theorem tail_all {Q : Nat → Prop} {b : Nat} {l : List Nat} (h : ∀ x ∈ b :: l, Q x) : ∀ x ∈ l, Q x := fun x hx => h x (List.mem_cons_of_mem _ hx)
theorem pPart_sub {Q : Nat → Prop} {s : Srt} {l r : List Nat} {x : Prt} (hl : ∀ b ∈ l, Q b) (h : pPart s l = some (x, r)) : ∀ b ∈ r, Q b := by
  have R : ∀ {m}, pReg m l = some (x, r) → ∀ b ∈ r, Q b := fun h => by
    obtain ⟨b, rfl, rfl⟩ := pReg_inv h
    exact tail_all hl
  have C : pCntP l = some (x, r) → ∀ b ∈ r, Q b := fun h => by
    obtain ⟨n, h1, rfl⟩ := pCntP_inv h
    exact pCnt_sub hl h1
  have W : ∀ {c}, pWrd c l = some (x, r) → ∀ b ∈ r, Q b := fun h => by
    obtain ⟨j, rfl, _, rfl⟩ := pWrd_inv h
    exact tail_all hl
  have L : pPls l = some (x, r) → ∀ b ∈ r, Q b := fun h => by
    obtain ⟨n, l1, s, h1, h2, rfl⟩ := pPls_inv h
    exact pSeq_sub (fun _ _ _ _ a q => pCnt_sub a q) (pCnt_sub hl h1) h2
  have V : pVal l = some (x, r) → ∀ b ∈ r, Q b := fun h => by
    rcases pVal_inv h with ⟨l1, bs, h1, h2, rfl⟩ | ⟨l1, n, l2, s, h1, h2, h3, rfl⟩
    · obtain ⟨rfl, _⟩ := pChoice_inv h1
      exact pSeq_sub (fun _ _ _ _ a q => by rw [pTake_len q] at a; exact tail_all a) (tail_all hl) h2
    · obtain ⟨rfl, _⟩ := pChoice_inv h1
      exact pSeq_sub (fun _ _ _ _ a q => by rw [(pChar_inv q).1] at a; exact tail_all a) (pCnt_sub (tail_all hl) h2) h3
  cases s with
  | d => exact R h
  | a => exact R h
  | k => exact R h
  | mb => exact R h
  | p => exact C h
  | i => exact C h
  | t => exact C h
  | value => exact V h
  | word => exact W h
  | sign => exact W h
  | compare => exact W h
  | sort => exact W h
  | keys => exact L h
  | members => exact L h
theorem pSeqTake_byte : ∀ {n : Nat} {l r bs : List Nat}, B8 l → pSeq (fun _ => pTake) n l = some (bs, r) → B8 bs := by
  intro n
  induction n with
  | zero => intro l r bs _ h; simp [pSeq] at h; rw [h.1]; intro b hb; simp at hb
  | succ n ih =>
    intro l r bs hl h
    obtain ⟨xs, x, r1, h1, h2, rfl⟩ := pSeq_inv h
    have a := ih hl h1
    have c := pSeq_sub (Q := fun b => b < 256) (fun _ _ _ _ a q => by rw [pTake_len q] at a; exact tail_all a) hl h1
    rw [pTake_len h2] at c
    intro b hb
    rcases List.mem_append.mp hb with hb | hb
    · exact a b hb
    · simp at hb; rw [hb]; exact c x List.mem_cons_self
theorem pPart_typ {s : Srt} {l r : List Nat} {x : Prt} (hl : B8 l) (h : pPart s l = some (x, r)) : typP s x := by
  have R : ∀ {m}, pReg m l = some (x, r) → ∃ n : Int, x = .reg n ∧ ((m = false ∧ 0 ≤ n ∧ n < 256) ∨ (m = true ∧ -1 ≤ n ∧ n < 255)) := fun {m} h => by
    obtain ⟨b, rfl, rfl⟩ := pReg_inv h
    have hb := hl b List.mem_cons_self
    refine ⟨_, rfl, ?_⟩
    cases m with
    | false => simp; omega
    | true =>
      right
      refine ⟨rfl, ?_⟩
      by_cases e : b = 255
      · subst e; simp
      · simp [e]; omega
  have W : ∀ {c}, pWrd c l = some (x, r) → ∃ j, x = .wrd c j ∧ j < nC c := fun h => by
    obtain ⟨j, rfl, hj, rfl⟩ := pWrd_inv h
    exact ⟨j, rfl, hj⟩
  cases s with
  | d => obtain ⟨n, rfl, ⟨_, q⟩ | ⟨q, _⟩⟩ := R h; exact q; cases q
  | a => obtain ⟨n, rfl, ⟨_, q⟩ | ⟨q, _⟩⟩ := R h; exact q; cases q
  | k => obtain ⟨n, rfl, ⟨_, q⟩ | ⟨q, _⟩⟩ := R h; exact q; cases q
  | mb => obtain ⟨n, rfl, ⟨q, _⟩ | ⟨_, q⟩⟩ := R h; cases q; exact q
  | p => obtain ⟨n, _, rfl⟩ := pCntP_inv h; trivial
  | i => obtain ⟨n, _, rfl⟩ := pCntP_inv h; trivial
  | t => obtain ⟨n, _, rfl⟩ := pCntP_inv h; trivial
  | value =>
    rcases pVal_inv h with ⟨l1, bs, h1, h2, rfl⟩ | ⟨l1, n, l2, s, h1, h2, h3, rfl⟩
    · obtain ⟨rfl, _⟩ := pChoice_inv h1
      have q := le_lt bs (pSeqTake_byte (tail_all hl) h2)
      rw [pSeq_length h2] at q
      exact signed_range q
    · intro c hc
      obtain ⟨i, hi, e⟩ := List.getElem_of_mem hc
      exact pSeq_all (Q := fun _ c => okChar c = true) (fun _ _ _ _ q => (pChar_inv q).2) h3 i c (by rw [← e]; simp [hi])
  | word => obtain ⟨j, rfl, hj⟩ := W h; exact ⟨rfl, hj⟩
  | sign => obtain ⟨j, rfl, hj⟩ := W h; exact ⟨rfl, hj⟩
  | compare => obtain ⟨j, rfl, hj⟩ := W h; exact ⟨rfl, hj⟩
  | sort => obtain ⟨j, rfl, hj⟩ := W h; exact ⟨rfl, hj⟩
  | keys => obtain ⟨n, l1, s, h1, h2, rfl⟩ := pPls_inv h; trivial
  | members => obtain ⟨n, l1, s, h1, h2, rfl⟩ := pPls_inv h; trivial

/-! the way back -/
theorem pReg_round {n : Int} {r : List Nat} (h1 : 0 ≤ n) (h2 : n < 256) : pReg false (encP (.reg n) ++ r) = some (.reg n, r) := by
  have e : ((n % 256).toNat : Int) = n := by omega
  simp [encP, pReg, e]
theorem pRegM_round {n : Int} {r : List Nat} (h1 : -1 ≤ n) (h2 : n < 255) : pReg true (encP (.reg n) ++ r) = some (.reg n, r) := by
  by_cases e : n = -1
  · subst e
    simp [encP, pReg]
  · have e1 : ((n % 256).toNat : Int) = n := by omega
    have e2 : (n % 256).toNat ≠ 255 := by omega
    simp [encP, pReg, e1, e2]
theorem pWrd_round {c j : Nat} {r : List Nat} (h : j < nC c) : pWrd c (encP (.wrd c j) ++ r) = some (.wrd c j, r) := by
  simp [encP, pWrd, pChoice, h]
theorem pCntP_round {n : Nat} {r : List Nat} : pCntP (encP (.cnt n) ++ r) = some (.cnt n, r) := by
  simp [encP, pCntP, pCnt_cb]
theorem pPls_round {l : List Nat} {r : List Nat} : pPls (encP (.pls l) ++ r) = some (.pls l, r) := by
  have q := pSeq_round (f := fun _ => pCnt) (e := cb) l r (fun _ x _ r => pCnt_cb r x)
  simp [encP, pPls, pCnt_cb, q]
theorem pVal_round {i : Int} {r : List Nat} (h1 : -2 ^ 63 ≤ i) (h2 : i < 2 ^ 63) : pVal (encP (.val i) ++ r) = some (.val i, r) := by
  have q := pSeq_round (f := fun _ => pTake) (e := fun x => [x]) (leB 8 (unsig i)) r (fun _ x _ r => rfl)
  rw [flat_one, leB_length] at q
  simp [encP, pVal, pChoice, q, le_leB 8 _ (unsig_lt i), signed_unsig h1 h2]
theorem pTxt_round {s : List Nat} {r : List Nat} (h : ∀ c ∈ s, okChar c = true) : pVal (encP (.txt s) ++ r) = some (.txt s, r) := by
  have q := pSeq_round (f := fun _ => pChar) (e := fun x => [x]) s r (fun _ x hx r => by
    have := h x (List.mem_of_getElem? hx)
    simp [pChar, this])
  rw [flat_one] at q
  simp [encP, pVal, pChoice, pCnt_cb, q]
theorem pPart_round {s : Srt} {x : Prt} {r : List Nat} (h : typP s x) : pPart s (encP x ++ r) = some (x, r) := by
  cases s <;> cases x <;> first
    | exact False.elim h
    | exact pReg_round h.1 h.2
    | exact pRegM_round h.1 h.2
    | exact pCntP_round
    | exact pPls_round
    | exact pVal_round h.1 h.2
    | exact pTxt_round h
    | (obtain ⟨rfl, hj⟩ := h; exact pWrd_round hj)

/-! ### rows and code -/
abbrev Row := Nat × List Prt
abbrev Code := List Nat × List Row
/-- the sorts of the parts of the words, in the order of WORDS -/
def tab : List (List Srt) :=
  [[.d, .value], [.d, .word], [.d, .k], [.d, .k], [.d, .p], [.p, .a], [.d, .i], [.d, .i], [.d, .i, .keys], [.d, .sign, .a, .a], [.d, .compare, .a, .a], [.d, .a], [.d, .a],
    [.d, .a], [.d, .a, .a], [.d, .a, .a, .a], [.d, .a], [.d, .a], [.d], [.t], [.a, .t], [.i, .a], [.i, .a], [.i, .keys, .a], [.sort, .members], [.i, .keys, .mb],
    [.a], [.a], [.a], [], [], []]
def srt (j : Nat) : List Srt := tab.getD j []
theorem srt_le : ∀ j, (srt j).length ≤ 4 := by
  intro j
  by_cases h : j < 32
  · have : ∀ i, i < 32 → (srt i).length ≤ 4 := by decide
    exact this j h
  · have : srt j = [] := by
      unfold srt
      rw [List.getD_eq_getElem?_getD, List.getElem?_eq_none (by show 32 ≤ j; omega)]
      rfl
    rw [this]
    exact Nat.zero_le _
def pSrts (ss : List Srt) : P (List Prt) := pSeq (fun i => pPart (ss.getD i .d)) ss.length
def pRow : P Row := fun l =>
  match pChoice 32 l with
  | none => none
  | some (j, r) =>
    match pSrts (srt j) r with
    | none => none
    | some (ps, r1) => some ((j, ps), r1)
def pCode : P Code := fun l =>
  match pCnt l with
  | none => none
  | some (n, r) =>
    match pSeq (fun _ => pChoice 2) n r with
    | none => none
    | some (ks, r1) =>
      match pCnt r1 with
      | none => none
      | some (m, r2) =>
        match pSeq (fun _ => pRow) m r2 with
        | none => none
        | some (rs, r3) => some ((ks, rs), r3)
def encR (row : Row) : List Nat := row.1 :: row.2.flatMap encP
def enc (c : Code) : List Nat := cb c.1.length ++ (c.1 ++ (cb c.2.length ++ c.2.flatMap encR))
/-- of the sorts -/
def TypPs (ss : List Srt) (ps : List Prt) : Prop := ps.length = ss.length ∧ ∀ i p, ps[i]? = some p → typP (ss.getD i .d) p
def TypR (row : Row) : Prop := row.1 < 32 ∧ TypPs (srt row.1) row.2
def TypC (c : Code) : Prop := (∀ k ∈ c.1, k < 2) ∧ ∀ r ∈ c.2, TypR r
def okPs : List Srt → List Prt → Bool
  | s :: ss, p :: ps => okP s p && okPs ss ps
  | _, _ => true
def okR (row : Row) : Bool := okPs (srt row.1) row.2
def okC (c : Code) : Bool := c.2.all okR
/-- the code of a row of bytes -/
def rd (R : List Nat) : Option Code :=
  match pCode R with
  | some (c, []) => if okC c = true ∧ enc c = R then some c else none
  | _ => none

theorem pSrts_inv {ss : List Srt} {l r : List Nat} {ps : List Prt} (hl : B8 l) (h : pSrts ss l = some (ps, r)) : TypPs ss ps ∧ (ps.flatMap encP).length + r.length ≤ l.length ∧ B8 r := by
  refine ⟨⟨pSeq_length h, ?_⟩, pSeq_len (e := encP) (fun _ l x l' q => pPart_len q) h, pSeq_sub (fun _ _ _ _ a q => pPart_sub a q) hl h⟩
  have key : ∀ {n : Nat} {r r' : List Nat} {xs : List Prt}, B8 r → pSeq (fun i => pPart (ss.getD i .d)) n r = some (xs, r') → ∀ i p, xs[i]? = some p → typP (ss.getD i .d) p := by
    intro n
    induction n with
    | zero => intro r r' xs _ h i p hp; simp [pSeq] at h; rw [h.1] at hp; simp at hp
    | succ n ih =>
      intro r r' ys hr h i p hp
      obtain ⟨xs, x, r1, h1, h2, rfl⟩ := pSeq_inv h
      have hn := pSeq_length h1
      have hb := pSeq_sub (Q := fun b => b < 256) (fun _ _ _ _ a q => pPart_sub a q) hr h1
      by_cases hi : i < n
      · rw [List.getElem?_append_left (by omega)] at hp
        exact ih hr h1 i p hp
      · rw [List.getElem?_append_right (by omega)] at hp
        by_cases e : i = n
        · subst e
          rw [hn, Nat.sub_self] at hp
          simp at hp
          subst hp
          exact pPart_typ hb h2
        · obtain ⟨k, hk⟩ : ∃ k, i - xs.length = k + 1 := ⟨i - xs.length - 1, by omega⟩
          rw [hk] at hp
          simp at hp
  exact key hl h
theorem pRow_inv {l r : List Nat} {x : Row} (h : pRow l = some (x, r)) : ∃ l1, l = x.1 :: l1 ∧ x.1 < 32 ∧ pSrts (srt x.1) l1 = some (x.2, r) := by
  unfold pRow at h
  cases q : pChoice 32 l with
  | none => rw [q] at h; cases h
  | some z =>
    obtain ⟨j, l1⟩ := z
    rw [q] at h
    replace h : (match pSrts (srt j) l1 with | none => none | some (ps, r1) => some ((j, ps), r1)) = some (x, r) := h
    cases q2 : pSrts (srt j) l1 with
    | none => rw [q2] at h; cases h
    | some z =>
      obtain ⟨ps, r1⟩ := z
      rw [q2] at h
      simp only [Option.some.injEq, Prod.mk.injEq] at h
      obtain ⟨h1, h2⟩ := pChoice_inv q
      obtain ⟨rfl, rfl⟩ := h
      exact ⟨l1, h1, h2, q2⟩
theorem pRow_len {l r : List Nat} {x : Row} (hl : B8 l) (h : pRow l = some (x, r)) : (encR x).length + r.length ≤ l.length := by
  obtain ⟨l1, rfl, _, h2⟩ := pRow_inv h
  have := (pSrts_inv (tail_all hl) h2).2.1
  simp only [encR, List.length_cons]
  omega
theorem pRow_len' {l r : List Nat} {x : Row} (h : pRow l = some (x, r)) : (encR x).length + r.length ≤ l.length := by
  obtain ⟨l1, rfl, _, h2⟩ := pRow_inv h
  have := pSeq_len (e := encP) (fun _ l x l' q => pPart_len q) h2
  simp only [encR, List.length_cons]
  omega
theorem pRow_sub {l r : List Nat} {x : Row} (hl : B8 l) (h : pRow l = some (x, r)) : B8 r := by
  obtain ⟨l1, rfl, _, h2⟩ := pRow_inv h
  exact (pSrts_inv (tail_all hl) h2).2.2
theorem pRow_typ {l r : List Nat} {x : Row} (hl : B8 l) (h : pRow l = some (x, r)) : TypR x := by
  obtain ⟨l1, rfl, h1, h2⟩ := pRow_inv h
  exact ⟨h1, (pSrts_inv (tail_all hl) h2).1⟩
theorem pCode_inv {l r : List Nat} {c : Code} (h : pCode l = some (c, r)) :
    ∃ n l1 l2 m l3, pCnt l = some (n, l1) ∧ pSeq (fun _ => pChoice 2) n l1 = some (c.1, l2) ∧ pCnt l2 = some (m, l3) ∧ pSeq (fun _ => pRow) m l3 = some (c.2, r) := by
  unfold pCode at h
  cases q : pCnt l with
  | none => rw [q] at h; cases h
  | some z =>
    obtain ⟨n, l1⟩ := z
    rw [q] at h
    dsimp only at h
    cases q2 : pSeq (fun _ => pChoice 2) n l1 with
    | none => rw [q2] at h; cases h
    | some z =>
      obtain ⟨ks, l2⟩ := z
      rw [q2] at h
      dsimp only at h
      cases q3 : pCnt l2 with
      | none => rw [q3] at h; cases h
      | some z =>
        obtain ⟨m, l3⟩ := z
        rw [q3] at h
        dsimp only at h
        cases q4 : pSeq (fun _ => pRow) m l3 with
        | none => rw [q4] at h; cases h
        | some z =>
          obtain ⟨rs, l4⟩ := z
          rw [q4] at h
          simp only [Option.some.injEq, Prod.mk.injEq] at h
          obtain ⟨rfl, rfl⟩ := h
          exact ⟨n, l1, l2, m, l3, rfl, q2, q3, q4⟩
theorem pCode_len {l r : List Nat} {c : Code} (h : pCode l = some (c, r)) : (enc c).length + r.length ≤ l.length := by
  obtain ⟨n, l1, l2, m, l3, h1, h2, h3, h4⟩ := pCode_inv h
  have a1 := pCnt_len h1
  have a2 := pSeq_len (e := fun x => [x]) (fun _ l x l' q => by rw [(pChoice_inv q).1]; simp; omega) h2
  rw [flat_one] at a2
  have a3 := pCnt_len h3
  have a4 := pSeq_len (e := encR) (fun _ l x l' q => pRow_len' q) h4
  have b2 := pSeq_length h2
  have b4 := pSeq_length h4
  simp only [enc, List.length_append]
  rw [b2, b4]
  omega
theorem pCode_typ {l r : List Nat} {c : Code} (hl : B8 l) (h : pCode l = some (c, r)) : TypC c := by
  obtain ⟨n, l1, l2, m, l3, h1, h2, h3, h4⟩ := pCode_inv h
  have s1 := pCnt_sub hl h1
  have s2 := pSeq_sub (Q := fun b => b < 256) (fun _ _ _ _ a q => by rw [(pChoice_inv q).1] at a; exact tail_all a) s1 h2
  have s3 := pCnt_sub s2 h3
  refine ⟨fun k hk => ?_, ?_⟩
  · obtain ⟨i, hi, e⟩ := List.getElem_of_mem hk
    exact pSeq_all (Q := fun _ c => c < 2) (fun _ _ _ _ q => (pChoice_inv q).2) h2 i k (by rw [← e]; simp [hi])
  · have key : ∀ {n : Nat} {r r' : List Nat} {xs : List Row}, B8 r → pSeq (fun _ => pRow) n r = some (xs, r') → ∀ x ∈ xs, TypR x := by
      intro n
      induction n with
      | zero => intro r r' xs _ h x hx; simp [pSeq] at h; rw [h.1] at hx; simp at hx
      | succ n ih =>
        intro r r' ys hr h x hx
        obtain ⟨xs, y, r1, h1, h2, rfl⟩ := pSeq_inv h
        rcases List.mem_append.mp hx with hx | hx
        · exact ih hr h1 x hx
        · simp at hx
          subst hx
          exact pRow_typ (pSeq_sub (Q := fun b => b < 256) (fun _ _ _ _ a q => pRow_sub a q) hr h1) h2
    exact key s3 h4
/-- read what was written -/
theorem pSrts_round {ss : List Srt} {ps : List Prt} {r : List Nat} (h : TypPs ss ps) : pSrts ss (ps.flatMap encP ++ r) = some (ps, r) := by
  unfold pSrts
  rw [← h.1]
  exact pSeq_round ps r fun i x hx r => pPart_round (h.2 i x hx)
theorem pRow_round {x : Row} {r : List Nat} (h : TypR x) : pRow (encR x ++ r) = some (x, r) := by
  have q := pSrts_round (r := r) h.2
  unfold pRow encR
  have h1 := h.1
  simp only [List.cons_append, pChoice, if_pos h1, q]
theorem pCode_round {c : Code} {r : List Nat} (h : TypC c) : pCode (enc c ++ r) = some (c, r) := by
  have q1 := pSeq_round (f := fun _ => pChoice 2) (e := fun x => [x]) c.1 (cb c.2.length ++ (c.2.flatMap encR ++ r)) (fun _ x hx r => by
    have := h.1 x (List.mem_of_getElem? hx)
    simp [pChoice, this])
  rw [flat_one] at q1
  have q2 := pSeq_round (f := fun _ => pRow) (e := encR) c.2 r (fun _ x hx r => pRow_round (h.2 x (List.mem_of_getElem? hx)))
  unfold pCode enc
  simp only [List.append_assoc, pCnt_cb, q1, q2]
theorem rd_enc {c : Code} (h : TypC c) (ho : okC c = true) : rd (enc c) = some c := by
  have q := pCode_round (r := []) h
  rw [List.append_nil] at q
  unfold rd
  rw [q]
  simp only
  rw [if_pos ⟨ho, trivial⟩]
theorem rd_inv {R : List Nat} {c : Code} (h : rd R = some c) : pCode R = some (c, []) ∧ okC c = true ∧ enc c = R := by
  unfold rd at h
  cases q : pCode R with
  | none => rw [q] at h; cases h
  | some z =>
    obtain ⟨d, r⟩ := z
    rw [q] at h
    cases r with
    | nil =>
      simp only at h
      split at h
      · rename_i hh
        simp only [Option.some.injEq] at h
        subst h
        exact ⟨rfl, hh⟩
      · cases h
    | cons a r => cases h

/-! ### runs of great bytes -/
/-- no more than B great bytes in a row -/
def RunB (B : Nat) (l : List Nat) : Prop := ∀ a w c, l = a ++ (w ++ c) → (∀ b ∈ w, 128 ≤ b) → w.length ≤ B
def scan (B : Nat) : Nat → List Nat → Option Nat
  | k, [] => some k
  | k, b :: r => if b < 128 then scan B 0 r else if k + 1 ≤ B then scan B (k + 1) r else none
theorem scan_app {B : Nat} : ∀ (l m : List Nat) (k : Nat), scan B k (l ++ m) = (scan B k l).bind fun k' => scan B k' m
  | [], m, k => rfl
  | b :: l, m, k => by
    simp only [List.cons_append, scan]
    split
    · exact scan_app l m 0
    · split
      · exact scan_app l m (k + 1)
      · rfl
theorem scan_some_app {B : Nat} {l m : List Nat} {k k' k'' : Nat} (h1 : scan B k l = some k') (h2 : scan B k' m = some k'') : scan B k (l ++ m) = some k'' := by
  rw [scan_app, h1]; exact h2
theorem scan_le {B : Nat} : ∀ {l : List Nat} {k k' : Nat}, k ≤ B → scan B k l = some k' → k' ≤ B
  | [], k, k', hk, h => by simp [scan] at h; omega
  | b :: l, k, k', hk, h => by
    simp only [scan] at h
    split at h
    · exact scan_le (Nat.zero_le _) h
    · split at h
      · rename_i h2; exact scan_le h2 h
      · cases h
/-- a run from its start -/
theorem scan_run {B : Nat} : ∀ {w c : List Nat} {k k' : Nat}, scan B k (w ++ c) = some k' → (∀ b ∈ w, 128 ≤ b) → k ≤ B → k + w.length ≤ B
  | [], c, k, k', h, hw, hk => by simpa using hk
  | b :: w, c, k, k', h, hw, hk => by
    have hb : ¬ b < 128 := by have := hw b List.mem_cons_self; omega
    simp only [List.cons_append, scan, if_neg hb] at h
    split at h
    · rename_i h2
      have := scan_run h (fun x hx => hw x (List.mem_cons_of_mem _ hx)) h2
      simp only [List.length_cons]
      omega
    · cases h
theorem run_of_scan {B : Nat} {l : List Nat} {k k' : Nat} (hk : k ≤ B) (h : scan B k l = some k') : RunB B l := by
  intro a w c e hw
  subst e
  rw [scan_app] at h
  cases q : scan B k a with
  | none => rw [q] at h; cases h
  | some k1 =>
    rw [q] at h
    have := scan_run (w := w) (c := c) h hw (scan_le hk q)
    omega
theorem RunB.left {B : Nat} {l m : List Nat} (h : RunB B (l ++ m)) : RunB B l := fun a w c e hw => h a w (c ++ m) (by rw [e]; simp) hw
theorem RunB.right {B : Nat} {l m : List Nat} (h : RunB B (l ++ m)) : RunB B m := fun a w c e hw => h (l ++ a) w c (by rw [e]; simp) hw
theorem RunB.mono {B C : Nat} {l : List Nat} (h : RunB B l) (hc : B ≤ C) : RunB C l := fun a w c e hw => Nat.le_trans (h a w c e hw) hc
theorem run_app {B C : Nat} {l m : List Nat} (h1 : RunB B l) (h2 : RunB C m) : RunB (B + C) (l ++ m) := by
  intro a w c e hw
  -- w lies left, right, or over the seam
  rcases Nat.le_total (a.length + w.length) l.length with hl | hl
  · have e1 : l = a ++ (w ++ (l.drop (a.length + w.length))) := by
      have t := congrArg (List.take (a.length + w.length)) e
      rw [List.take_append_of_le_length hl, ← List.append_assoc, List.take_append_of_le_length (by simp)] at t
      rw [← List.append_assoc, ← List.length_append] at *
      rw [List.length_append] at t ⊢
      have t2 : List.take (a.length + w.length) (a ++ w) = a ++ w := by rw [← List.length_append]; exact List.take_length
      rw [t2] at t
      rw [← t]
      exact (List.take_append_drop _ _).symm
    have := h1 a w _ e1 hw
    omega
  · rcases Nat.le_total l.length a.length with hr | hr
    · have e1 : m = (a.drop l.length) ++ (w ++ c) := by
        have t := congrArg (List.drop l.length) e
        rw [List.drop_left, List.drop_append_of_le_length hr] at t
        exact t
      have := h2 _ w c e1 hw
      omega
    · -- the seam is in w
      have hk : l.length - a.length ≤ w.length := by omega
      have ew : w = w.take (l.length - a.length) ++ w.drop (l.length - a.length) := (List.take_append_drop _ _).symm
      have e1 : l = a ++ (w.take (l.length - a.length) ++ []) := by
        have t := congrArg (List.take l.length) e
        rw [List.take_left, List.take_append, List.take_of_length_le hr, List.take_append_of_le_length hk] at t
        rw [List.append_nil]
        exact t
      have e2 : m = [] ++ (w.drop (l.length - a.length) ++ c) := by
        have t := congrArg (List.drop l.length) e
        rw [List.drop_left, List.drop_append, List.drop_of_length_le hr, List.nil_append, List.drop_append_of_le_length hk] at t
        exact t
      have b1 := h1 _ _ _ e1 fun x hx => hw x (List.mem_of_mem_take hx)
      have b2 := h2 _ _ _ e2 fun x hx => hw x (List.mem_of_mem_drop hx)
      rw [ew, List.length_append]
      omega
theorem run_length {l : List Nat} : RunB l.length l := fun a w c e hw => by
  have := congrArg List.length e
  simp at this
  omega
theorem run_take {B n : Nat} {l : List Nat} (h : RunB B l) : RunB B (l.take n) := RunB.left (m := l.drop n) (by rw [List.take_append_drop]; exact h)
theorem run_drop {B n : Nat} {l : List Nat} (h : RunB B l) : RunB B (l.drop n) := RunB.right (l := l.take n) (by rw [List.take_append_drop]; exact h)
/-- the law's other rows -/
theorem run_mid {B : Nat} {l x : List Nat} {i j : Nat} (h : RunB B l) : RunB (B + (x.length + B)) (l.take i ++ (x ++ l.drop j)) :=
  run_app (run_take h) (run_app run_length (run_drop h))
theorem cb_run {B n : Nat} {l r : List Nat} (h : RunB B (l ++ (cb n ++ r))) : n < 128 ^ (B + 1) := by
  obtain ⟨w, b, e, hw, hb⟩ := cb_form n
  refine cb_bound _ _ ?_
  have := h l w ([b] ++ r) (by rw [e]; simp) fun x hx => (hw x hx).1
  rw [e]
  simp
  exact this
/-- counts that the law's own test knows -/
def cntP (M : Nat) : Prt → Prop
  | .cnt n => n ≤ M
  | .pls l => ∀ n ∈ l, n ≤ M
  | _ => True
theorem split_mem {α : Type} {e : α → List Nat} {x : α} : ∀ {l : List α}, x ∈ l → ∃ a b, l.flatMap e = a ++ (e x ++ b)
  | y :: l, h => by
    rcases List.mem_cons.mp h with rfl | h
    · exact ⟨[], l.flatMap e, by simp⟩
    · obtain ⟨a, b, q⟩ := split_mem (e := e) h
      exact ⟨e y ++ a, b, by rw [List.flatMap_cons, q]; simp⟩
theorem run_mem {α : Type} {e : α → List Nat} {B : Nat} {l : List α} {x : α} (h : RunB B (l.flatMap e)) (hx : x ∈ l) : RunB B (e x) := by
  obtain ⟨a, b, q⟩ := split_mem (e := e) hx
  rw [q] at h
  exact RunB.left (RunB.right h)
theorem cntP_of_run {B M : Nat} (hM : 128 ^ (B + 1) ≤ M + 1) {p : Prt} (h : RunB B (encP p)) : cntP M p := by
  cases p with
  | cnt n =>
    have := cb_run (l := []) (r := []) (n := n) (B := B) (by simpa [encP] using h)
    simp only [cntP]
    omega
  | pls l =>
    intro n hn
    have h1 : RunB B (l.flatMap cb) := RunB.right h
    have h2 := run_mem h1 hn
    have := cb_run (l := []) (r := []) (n := n) (B := B) (by simpa using h2)
    omega
  | reg n => trivial
  | val n => trivial
  | txt n => trivial
  | wrd c j => trivial
def CntR (M : Nat) (row : Row) : Prop := ∀ p ∈ row.2, cntP M p
theorem cntC_of_run {B M : Nat} (hM : 128 ^ (B + 1) ≤ M + 1) {c : Code} (h : RunB B (enc c)) : ∀ r ∈ c.2, CntR M r := by
  intro r hr p hp
  have h1 : RunB B (c.2.flatMap encR) := RunB.right (RunB.right (RunB.right h))
  have h2 : RunB B (encR r) := run_mem h1 hr
  have h3 : RunB B (r.2.flatMap encP) := RunB.right (l := [r.1]) h2
  exact cntP_of_run hM (run_mem h3 hp)

/-! ### small code, as the law draws it -/
def smallP : Prt → Prop
  | .cnt n => n ≤ 10000
  | .pls l => l.length ≤ 16 ∧ ∀ n ∈ l, n ≤ 10000
  | .txt s => s.length ≤ 32
  | _ => True
def SmallR (row : Row) : Prop := TypR row ∧ okR row = true ∧ ∀ p ∈ row.2, smallP p
def SmallC (c : Code) : Prop := c.1.length ≤ 4 ∧ (∀ k ∈ c.1, k < 2) ∧ 1 ≤ c.2.length ∧ c.2.length ≤ 14 ∧ ∀ r ∈ c.2, SmallR r
theorem SmallC.typ {c : Code} (h : SmallC c) : TypC c := ⟨h.2.1, fun r hr => (h.2.2.2.2 r hr).1⟩
theorem SmallC.ok {c : Code} (h : SmallC c) : okC c = true := by
  unfold okC
  rw [List.all_eq_true]
  exact fun r hr => (h.2.2.2.2 r hr).2.1
theorem cb_len_small {n : Nat} (h : n ≤ 10000) : (cb n).length ≤ 2 := by
  by_cases h1 : n ≤ 127
  · rw [cb_small h1]; exact Nat.le_succ _
  · rw [cb_big h1, cb_small (by omega)]; exact Nat.le_refl _
theorem cb_tame {n : Nat} (h : n ≤ 10000) : scan 9 0 (cb n) = some 0 := by
  by_cases h1 : n ≤ 127
  · rw [cb_small h1]
    have : n < 128 := by omega
    simp [scan, this]
  · rw [cb_big h1, cb_small (by omega)]
    have a : ¬ (128 + n % 128 < 128) := by omega
    have b : n / 128 < 128 := by omega
    simp [scan, a, b]
theorem cbs_tame : ∀ {l : List Nat}, (∀ n ∈ l, n ≤ 10000) → scan 9 0 (l.flatMap cb) = some 0
  | [], _ => rfl
  | n :: l, h => by
    rw [List.flatMap_cons]
    exact scan_some_app (cb_tame (h n List.mem_cons_self)) (cbs_tame fun x hx => h x (List.mem_cons_of_mem _ hx))
theorem low_scan {B : Nat} : ∀ {l : List Nat}, (∀ b ∈ l, b < 128) → scan B 0 l = some 0
  | [], _ => rfl
  | b :: l, h => by
    have := h b List.mem_cons_self
    simp only [scan, if_pos this]
    exact low_scan fun x hx => h x (List.mem_cons_of_mem _ hx)
theorem any_scan {B : Nat} : ∀ {l : List Nat} {k : Nat}, k + l.length ≤ B → ∃ k', scan B k l = some k' ∧ k' ≤ k + l.length
  | [], k, h => ⟨k, rfl, Nat.le_refl _⟩
  | b :: l, k, h => by
    simp only [List.length_cons] at h
    simp only [scan, List.length_cons]
    split
    · obtain ⟨k', h1, h2⟩ := any_scan (B := B) (l := l) (k := 0) (by omega)
      exact ⟨k', h1, by omega⟩
    · rw [if_pos (by omega)]
      obtain ⟨k', h1, h2⟩ := any_scan (B := B) (l := l) (k := k + 1) (by omega)
      exact ⟨k', h1, by omega⟩
theorem okChar_lt {c : Nat} (h : okChar c = true) : c < 127 := by
  unfold okChar at h
  simp only [Bool.and_eq_true, decide_eq_true_eq] at h
  exact h.1.2
/-- a part that is no value and no maybe leaves no run open -/
theorem part_tame {s : Srt} {p : Prt} (ht : typP s p) (ho : okP s p = true) (hs : smallP p) (h1 : s ≠ .value) (h2 : s ≠ .mb) : scan 9 0 (encP p) = some 0 := by
  cases s <;> cases p <;> first
    | exact False.elim ht
    | exact absurd rfl h1
    | exact absurd rfl h2
    | exact cb_tame hs
    | (obtain ⟨q1, q2⟩ := hs
       have e := cb_tame (n := List.length ‹List Nat›) (by omega)
       exact scan_some_app e (cbs_tame q2))
    | (obtain ⟨rfl, hj⟩ := ht
       have : ‹Nat› < 128 := by omega
       simp [encP, scan, this])
    | (simp only [okP, Bool.and_eq_true, decide_eq_true_eq] at ho
       have : (‹Int› % 256).toNat < 128 := by omega
       simp [encP, scan, this])
theorem part_any {s : Srt} {p : Prt} (ht : typP s p) (ho : okP s p = true) (hs : smallP p) : ∃ k, scan 9 0 (encP p) = some k := by
  by_cases h1 : s = .value
  · subst h1
    cases p with
    | val i =>
      obtain ⟨k, hk, _⟩ := any_scan (B := 9) (l := encP (.val i)) (k := 0) (by simp [encP, leB_length])
      exact ⟨k, hk⟩
    | txt t =>
      refine ⟨0, ?_⟩
      have a : scan 9 0 [1] = some 0 := rfl
      have hl : t.length ≤ 10000 := by have : t.length ≤ 32 := hs; omega
      have b := cb_tame hl
      have c : scan 9 0 t = some 0 := low_scan fun x hx => by have := okChar_lt (ht x hx); omega
      exact scan_some_app (l := [1]) a (scan_some_app b c)
    | reg n => exact False.elim ht
    | cnt n => exact False.elim ht
    | wrd c j => exact False.elim ht
    | pls l => exact False.elim ht
  · by_cases h2 : s = .mb
    · subst h2
      cases p with
      | reg n =>
        obtain ⟨k, hk, _⟩ := any_scan (B := 9) (l := encP (.reg n)) (k := 0) (by simp [encP])
        exact ⟨k, hk⟩
      | cnt n => exact False.elim ht
      | val n => exact False.elim ht
      | txt n => exact False.elim ht
      | wrd c j => exact False.elim ht
      | pls l => exact False.elim ht
    · exact ⟨0, part_tame ht ho hs h1 h2⟩
/-- value and maybe stand last in their rows -/
def lastOnly : List Srt → Bool
  | [] => true
  | [_] => true
  | s :: r => s != .value && s != .mb && lastOnly r
theorem TypPs.tail {s : Srt} {ss : List Srt} {p : Prt} {ps : List Prt} (h : TypPs (s :: ss) (p :: ps)) : typP s p ∧ TypPs ss ps :=
  ⟨h.2 0 p rfl, by have := h.1; simpa using this, fun i q hq => h.2 (i + 1) q (by simpa using hq)⟩
theorem parts_scan : ∀ {ss : List Srt} {ps : List Prt}, lastOnly ss = true → TypPs ss ps → okPs ss ps = true → (∀ p ∈ ps, smallP p) → ∃ k, scan 9 0 (ps.flatMap encP) = some k
  | _, [], _, _, _, _ => ⟨0, rfl⟩
  | [], p :: ps, _, h, _, _ => by have := h.1; simp at this
  | [s], p :: ps, _, h, ho, hs => by
    have hl := h.1
    have e : ps = [] := by cases ps with | nil => rfl | cons a b => simp at hl
    subst e
    obtain ⟨ht, _⟩ := h.tail
    simp only [okPs, Bool.and_eq_true] at ho
    obtain ⟨k, hk⟩ := part_any ht ho.1 (hs p List.mem_cons_self)
    exact ⟨k, by simpa using hk⟩
  | s :: s2 :: ss, p :: ps, hL, h, ho, hs => by
    obtain ⟨ht, hr⟩ := h.tail
    simp only [okPs, Bool.and_eq_true] at ho
    simp only [lastOnly, Bool.and_eq_true, bne_iff_ne] at hL
    obtain ⟨k, hk⟩ := parts_scan (ss := s2 :: ss) (ps := ps) hL.2 hr ho.2 fun q hq => hs q (List.mem_cons_of_mem _ hq)
    exact ⟨k, by rw [List.flatMap_cons]; exact scan_some_app (part_tame ht ho.1 (hs p List.mem_cons_self) hL.1.1 hL.1.2) hk⟩
theorem lastOnly_srt : ∀ j, j < 32 → lastOnly (srt j) = true := by decide
theorem row_scan {r : Row} (h : SmallR r) (k : Nat) : ∃ k', scan 9 k (encR r) = some k' := by
  obtain ⟨⟨h1, h2⟩, h3, h4⟩ := h
  obtain ⟨k', hk⟩ := parts_scan (lastOnly_srt r.1 h1) h2 h3 h4
  refine ⟨k', ?_⟩
  have : r.1 < 128 := by omega
  simp only [encR, scan, if_pos this]
  exact hk
theorem rows_scan : ∀ {l : List Row} (k : Nat), (∀ r ∈ l, SmallR r) → ∃ k', scan 9 k (l.flatMap encR) = some k'
  | [], k, _ => ⟨k, rfl⟩
  | r :: l, k, h => by
    obtain ⟨k1, h1⟩ := row_scan (h r List.mem_cons_self) k
    obtain ⟨k2, h2⟩ := rows_scan k1 fun x hx => h x (List.mem_cons_of_mem _ hx)
    exact ⟨k2, by rw [List.flatMap_cons]; exact scan_some_app h1 h2⟩
theorem SmallC.run {c : Code} (h : SmallC c) : RunB 9 (enc c) := by
  obtain ⟨h1, h2, h3, h4, h5⟩ := h
  obtain ⟨k, hk⟩ := rows_scan 0 h5
  refine run_of_scan (k := 0) (Nat.zero_le _) (k' := k) ?_
  refine scan_some_app (cb_tame (by omega)) (scan_some_app (k' := 0) (low_scan fun b hb => ?_) (scan_some_app (cb_tame (by omega)) hk))
  have := h2 b hb
  omega
/-- sizes -/
theorem flat_le {α : Type} {e : α → List Nat} {N : Nat} : ∀ {l : List α}, (∀ x ∈ l, (e x).length ≤ N) → (l.flatMap e).length ≤ l.length * N
  | [], _ => by simp
  | x :: l, h => by
    have a := h x List.mem_cons_self
    have b := flat_le (e := e) (N := N) (l := l) fun y hy => h y (List.mem_cons_of_mem _ hy)
    simp only [List.flatMap_cons, List.length_append, List.length_cons, Nat.add_mul, Nat.one_mul]
    omega
theorem part_small_len {p : Prt} (h : smallP p) : (encP p).length ≤ 36 := by
  cases p with
  | reg n => simp [encP]
  | cnt n => have : (cb n).length ≤ 2 := cb_len_small h; simp only [encP]; omega
  | val n => simp [encP, leB_length]
  | txt t =>
    have hl : t.length ≤ 32 := h
    have : (cb t.length).length ≤ 2 := cb_len_small (by omega)
    simp only [encP, List.length_cons, List.length_append]; omega
  | wrd c j => simp [encP]
  | pls l =>
    obtain ⟨h1, h2⟩ := h
    have a : (cb l.length).length ≤ 2 := cb_len_small (by omega)
    have b := flat_le (e := cb) (N := 2) (l := l) fun x hx => cb_len_small (h2 x hx)
    simp only [encP, List.length_append]; omega
theorem SmallC.len {c : Code} (h : SmallC c) : (enc c).length ≤ 2100 := by
  obtain ⟨h1, h2, h3, h4, h5⟩ := h
  have a : (cb c.1.length).length ≤ 2 := cb_len_small (by omega)
  have b : (cb c.2.length).length ≤ 2 := cb_len_small (by omega)
  have d := flat_le (e := encR) (N := 145) (l := c.2) fun r hr => by
    obtain ⟨⟨q1, q2, _⟩, _, q4⟩ := h5 r hr
    have := flat_le (e := encP) (N := 36) (l := r.2) fun p hp => part_small_len (q4 p hp)
    have := srt_le r.1
    simp only [encR, List.length_cons]
    omega
  simp only [enc, List.length_append]
  omega
theorem leB_b8 {k n : Nat} : B8 (leB k n) := fun _ h => leB_byte h
theorem encP_byte {s : Srt} {p : Prt} (ht : typP s p) (hs : ∀ t, p = .txt t → True) : B8 (encP p) := by
  intro b hb
  cases p with
  | reg n => simp [encP] at hb; omega
  | cnt n => exact cb_byte hb
  | val i =>
    simp only [encP, List.mem_cons] at hb
    rcases hb with rfl | hb
    · omega
    · exact leB_byte hb
  | txt t =>
    simp only [encP, List.mem_cons, List.mem_append] at hb
    rcases hb with rfl | hb | hb
    · omega
    · exact cb_byte hb
    · have : okChar b = true := by
        cases s <;> first | exact False.elim ht | exact ht b hb
      have := okChar_lt this
      omega
  | wrd c j =>
    simp only [encP, List.mem_cons, List.not_mem_nil, or_false] at hb
    subst hb
    cases s <;> first | exact False.elim ht | (have := ht.2; omega)
  | pls l =>
    simp only [encP, List.mem_append, List.mem_flatMap] at hb
    rcases hb with hb | ⟨n, _, hb⟩
    · exact cb_byte hb
    · exact cb_byte hb
theorem enc_byte {c : Code} (h : TypC c) : B8 (enc c) := by
  intro b hb
  simp only [enc, List.mem_append, List.mem_flatMap] at hb
  rcases hb with hb | hb | hb | ⟨r, hr, hb⟩
  · exact cb_byte hb
  · have := h.1 b hb; omega
  · exact cb_byte hb
  · obtain ⟨h1, h2⟩ := h.2 r hr
    simp only [encR, List.mem_cons, List.mem_flatMap] at hb
    rcases hb with rfl | ⟨p, hp, hb⟩
    · omega
    · obtain ⟨i, hi, e⟩ := List.getElem_of_mem hp
      exact encP_byte (h2.2 i p (by rw [← e]; simp [hi])) (fun _ _ => trivial) b hb
theorem flat_at {α : Type} {e : α → List Nat} {l : List α} {i : Nat} {x : α} (h : l[i]? = some x) : l.flatMap e = (l.take i).flatMap e ++ (e x ++ (l.drop (i + 1)).flatMap e) := by
  have hlt := (List.getElem?_eq_some_iff.mp h).1
  have e0 : l = l.take i ++ (x :: l.drop (i + 1)) := by
    have q := List.drop_eq_getElem_cons hlt
    rw [(List.getElem?_eq_some_iff.mp h).2] at q
    rw [← q, List.take_append_drop]
  conv => lhs; rw [e0]
  rw [List.flatMap_append, List.flatMap_cons]
theorem flat_take {α : Type} {e : α → List Nat} {l : List α} {i : Nat} {x : α} (h : l[i]? = some x) : (l.take (i + 1)).flatMap e = (l.take i).flatMap e ++ e x := by
  rw [List.take_add_one, h, List.flatMap_append]
  simp
theorem flat_take_len {α : Type} {e : α → List Nat} (l : List α) (i : Nat) : ((l.take i).flatMap e).length ≤ (l.flatMap e).length := by
  have : l.flatMap e = (l.take i).flatMap e ++ (l.drop i).flatMap e := by rw [← List.flatMap_append, List.take_append_drop]
  rw [this, List.length_append]
  omega
end K53

/-! K53Comp: a list comprehension whose element may raise (an own rule over HandS). -/
namespace L2.KR
open PySem PySem.Spec PyProof.Rows
/-- what is owed where an exception leaves the block cenv of a comprehension in X -/
def blkXe (X : Cx) (cenv : Env) : Value → Shared → Prop := notedBy (model X.prog X.w) X.A cenv fun e s' => CompFails (model X.prog X.w) X.A X.xe cenv e s'
/-- the context of a block that may raise -/
abbrev blkX (X : Cx) (s : Shared) (H : Hp) (scope : Scope) (cenv : Env) (fp : List Addr) : Cx := { X.blk s H scope cenv fp with xe := blkXe X cenv }

theorem Ok.blkX {X : Cx} {s : Shared} {H : Hp} {scope : Scope} {cenv : Env} {fp : List Addr} (ok : (X.blk s H scope cenv fp).Ok) : (KR.blkX X s H scope cenv fp).Ok :=
  ⟨ok.mod, ok.kind, ok.glob, ok.blt, ok.above, ok.inj, ok.has, ok.cab, ok.hd, ok.frames, ok.stk, ok.exf, ok.bs, ok.bsz, ok.noex, ok.exfs, ok.funs, ok.frf⟩
theorem Inv.blkX {X : Cx} {s s' : Shared} {H H' : Hp} {scope : Scope} {cenv : Env} {fp : List Addr} {pins : List (Addr × Obj)} {σ : St} (I : Inv (X.blk s H scope cenv fp) pins σ H' s') : Inv (KR.blkX X s H scope cenv fp) pins σ H' s' :=
  ⟨Ok.blkX I.ok, I.os, I.bare, I.base, I.loc, I.cell, I.free, I.freeC, I.pin, I.hok, I.len⟩

/-- one object hidden -/
theorem stay_hidden {B h : Heap} {C : Addr} (st : B.StaysIn h) : (PySem.W.hideAll B [C]).StaysIn h := fun b o e => st b o (PySem.W.of_hideAll _ e)
theorem hidden_self {B : Heap} {C : Addr} : (PySem.W.hideAll B [C]).get? C = none := PySem.W.hideAll_none _ (by simp)
theorem hidden_none {B : Heap} {C b : Addr} (h : B.get? b = none) : (PySem.W.hideAll B [C]).get? b = none := by
  cases q : (PySem.W.hideAll B [C]).get? b with
  | none => rfl
  | some o =>
    have z := PySem.W.of_hideAll _ q
    rw [h] at z; cases z
theorem funs_hidden {B h : Heap} {C : Addr} : ∀ {l : List Env}, h.FunFrames B l → h.FunFrames (PySem.W.hideAll B [C]) l
  | [], _ => trivial
  | env :: l, ⟨hk, ⟨L, o, hf, hn, ho, hd⟩, hr⟩ => ⟨hk, ⟨L, o, hf, hidden_none hn, ho, hd⟩, funs_hidden hr⟩
theorem traced_hidden {h B : Heap} {e C : Addr} {Z : Obj → Prop} {fl : Value} (t : HandSPX.TracedZ h B e Z fl) : HandSPX.TracedZ h (PySem.W.hideAll B [C]) e Z fl := by
  obtain ⟨oe, vs, T, oT, ts, he, hz, hd, h1, hnT, hTe, hT, hdT, h3⟩ := t
  exact ⟨oe, vs, T, oT, ts, he, hz, hd, h1, hidden_none hnT, hTe, hT, hdT, h3⟩
theorem flying_hidden {B h : Heap} {l : List Env} {e C : Addr} {Z : Obj → Prop} (f : HandSPX.FlyingZ B l e Z h) : HandSPX.FlyingZ (PySem.W.hideAll B [C]) l e Z h :=
  ⟨stay_hidden f.1, hidden_none f.2.1, funs_hidden f.2.2.1, traced_hidden f.2.2.2⟩
/-- the block's names are let go: what is held stays held -/
theorem held_same {B h h' : Heap} {l : List Env} {e L C : Addr} {Z : Obj → Prop} {m m' : Str → Option Value} (hC : B.get? C = none) (hn : h.Ns C m) (hn' : h'.Ns C m') (sb : Heap.SameBut C h h') (x : HandSPX.HeldZ B l e Z L h) : HandSPX.HeldZ B l e Z L h' := by
  obtain ⟨b1, b0, f1, oe, vs, T, oT, ts, he, hz, hd, h1, hnT, hTe, hT, hdT, h3⟩ := x
  obtain ⟨oC, es, ep, hoC, hdC, _⟩ := hn
  have neC : ∀ {b : Addr} {o : Obj} {v : Array Value}, h.get? b = some o → o.data = .fields v → b ≠ C := fun {b o v} q d z => by
    rw [z, hoC] at q
    cases q
    rw [hdC] at d
    cases d
  refine ⟨fun b o q => (sb.2 b fun z => by rw [z, hC] at q; cases q).trans (b1 b o q), b0, Heap.FunFrames.sameBut sb hn' f1, oe, vs, T, oT, ts, (sb.2 e (neC he hd)).trans he, hz, hd, h1, hnT, hTe, (sb.2 T (neC hT hdT)).trans hT, hdT, h3⟩

section
variable {X : Cx}
/-- an exception out of a call in the block is in the air of the def around -/
theorem blk_passes {W : WX} {E : XK} {pins pins' : List (Addr × Obj)} {σ σ' : St} {s3 s5 : Shared} {H3 H5 : Hp} {scope : Scope} {ce : Env} {fp : List Addr} {e : Value} {s' : Shared}
    (hs : X.stack = X.env :: X.outer) (hf : X.env.frame = some X.env.locals) (tk : Takes X W) (hW : ∀ cls d σ H, E cls d H → W cls d σ H)
    (hcf : ce.frame = X.env.frame) (hce : ce.locals = s3.heap.objs.size) (I3 : Inv X pins σ H3 s3) (hfp : ∀ b ∈ fp, FpOk X pins H3 b ∧ b < s3.heap.objs.size)
    (I5 : Inv (KR.blkX X s3 H3 scope ce fp) pins' σ' H5 s5) (c : CX X.prog X.w X.stack H5 s5 E e s') : blkXe X ce e s' := by
  have x : XE (KR.blkX X s3 H3 scope ce fp) (fun cls d _ H => E cls d H) e s' := XE.of_call I5 (fun _ _ _ h => h) c
  obtain ⟨a, B, H', cls, d, rfl, fl, hok, ub, na, os, ag, hE⟩ := id c
  obtain ⟨a', Bx, sI, pinsI, σI, HI, clsI, dI, ea, II, nb, up, sky, naI, osI, agI, wI⟩ := x
  cases ea
  have hfr : X.A.frames = some (X.env :: X.outer) := by rw [I3.ok.frames, hs]
  -- the flight over the ground without the block's names
  generalize hC : ce.locals = C at *
  have flB : ∃ B0 : Heap, HandSPX.FlyingZ B0 X.stack a (Zc clsI dI) s'.heap ∧ (∀ b o, sI.heap.get? b = some o → b ∉ frs X.stack → B0.get? b = some o) := by
    rcases sky with ⟨_, _, _, oe, vs, he, hz, hd, h1⟩ | f | hh
    · -- it came out of a call: its record bears a traceback
      exfalso
      obtain ⟨_, _, _, oe', vs', T, _, _, he', _, hd', h1', _⟩ := fl
      rw [he] at he'
      cases he'
      rw [hd] at hd'
      cases hd'
      rw [h1] at h1'
      cases h1'
    · exact ⟨Bx, f, nb⟩
    · exfalso
      obtain ⟨_, _, _, oe, vs, T, oT, ts, he, _, hd, h1, _, _, hT, hdT, h3⟩ := hh
      obtain ⟨_, _, _, oe', vs', T', oT', ts', he', _, hd', h1', _, _, hT', hdT', h3'⟩ := fl
      rw [he] at he'
      cases he'
      rw [hd] at hd'
      cases hd'
      rw [h1] at h1'
      cases h1'
      rw [hT] at hT'
      cases hT'
      rw [hdT] at hdT'
      cases hdT'
      rw [h3] at h3'
      simp [rawInt] at h3'
  obtain ⟨B0, fl0, nb0⟩ := flB
  have fl1 : HandSPX.FlyingZ (PySem.W.hideAll B0 [C]) (X.env :: X.outer) a (Zc clsI dI) s'.heap := by
    have z := flying_hidden (C := C) fl0
    rw [hs] at z
    exact z
  obtain ⟨m, hnI, _⟩ := II.loc
  have hnI : sI.heap.Ns C m := by
    have z : sI.heap.Ns ce.locals m := hnI
    rw [hC] at z
    exact z
  have freeC : HI C = none := by
    have z : HI ce.locals = none := II.free
    rw [hC] at z
    exact z
  show wpAny (model X.prog X.w) X.A (noteFrame (.ref a) ce) _ _ s'
  rw [noteFrame_env _ hcf]
  refine HandSPX.looks_onZ Zc.steady hfr hf fl1 fun h1 hh1 up1 => ?_
  have hn1 : h1.Ns ce.locals m := by rw [hC]; exact (up.trans up1).ns hnI
  refine ⟨m, hn1, fun h2 m2 hn2 sb2 => ?_⟩
  rw [hC] at hn1 hn2 sb2
  have hh2 := held_same hidden_self hn1 hn2 sb2 hh1
  obtain ⟨b1, b0, f1, oe, vs, T, oT, ts, he, hz, hd, hv1, hnT, hTe, hT, hdT, hv3⟩ := id hh2
  unfold PySem.passOn
  refine wpAny_bind (wpAny_field he hd hv1 ?_)
  rw [if_neg (show ¬ ((Value.ref T == Value.none) = true) from by simp)]
  rw [hcf, hf]
  have fin : wpAny (model X.prog X.w) X.A (setFlight (.ref a) (some X.env.locals)) (fun _ s4 => wpAny (model X.prog X.w) X.A (throw (.ref a) : Sem Value) (fun _ _ => False) X.xe s4) X.xe { s' with heap := h2 } := by
    refine HandSPX.setFlight_onZ hh2 fun h3 hh3 up3 => wpAny_throw (tk _ _ ?_)
    -- the state of the def around, without the exception and the block's names
    have sIh : ∀ b o, (PySem.W.hideAll sI.heap [C]).get? b = some o → sI.heap.get? b = some o := fun b o q => PySem.W.of_hideAll _ q
    have hsI : ∀ b o, b ≠ C → sI.heap.get? b = some o → (PySem.W.hideAll sI.heap [C]).get? b = some o := fun b o hb q => PySem.W.hideAll_get _ q (by simpa using hb)
    have oldC : ∀ b o, s3.heap.get? b = some o → b ≠ C := fun b o q z => by
      have := Heap.lt_size q
      rw [z, hce] at this
      exact absurd this (Nat.lt_irrefl _)
    have J : Inv X pins σ HI { sI with heap := PySem.W.hideAll sI.heap [C] } := by
      refine I3.call' (ch := fp) II.os ⟨fun b o q n hb hx => hsI b o (oldC b o q) (II.base.keep b o q n hb hx), fun b o q n hb hx => ?_, fun b o q n hx => II.base.free b o q n hx, fun b o q hx => ?_, II.base.tups, II.base.frzs, II.base.tbls⟩ (fun b o q => ?_) II.bare
        fun b hb => ⟨(hfp b hb).1.2.2.2.1, (hfp b hb).1.2.1, (hfp b hb).1.2.2.2.2.1, (hfp b hb).1.2.2.2.2.2⟩
      · obtain ⟨sl, q2⟩ := II.base.slot b o q n hb hx
        exact ⟨sl, hsI b _ (oldC b o q) q2⟩
      · obtain ⟨o', q2⟩ := II.base.there b o q hx
        exact ⟨o', hsI b o' (oldC b o q) q2⟩
      · refine (II.hok b o q).stay (fun c u hc r => hsI c u (fun z => ?_) r) (fun _ r => r) fun _ _ r => r
        rcases hc with hc | hc
        · rw [← hc, z, freeC] at q
          cases q
        · rw [z, freeC] at hc
          cases hc
    refine ⟨a, PySem.W.hideAll B0 [C], _, pins, σ, HI, clsI, dI, rfl, J, fun b o q hb => ?_, fun b o q hnf => ?_, .inr (.inr (by rw [hs]; exact hh3)), naI, ?_, agI, hW _ _ _ _ wI⟩
    · have hbC : b ≠ C := fun z => by
        rw [z, hidden_self] at q
        cases q
      exact PySem.W.hideAll_get _ (nb0 b o (sIh b o q) hb) (by simpa using hbC)
    · have hbC : b ≠ C := fun z => by
        rw [z, hidden_self] at q
        cases q
      obtain ⟨sl, q1⟩ := (up.trans up1) b o (sIh b o q) hnf
      have q2 : h2.get? b = some { o with slots := sl } := (sb2.2 b hbC).trans q1
      obtain ⟨sl3, q3⟩ := up3 b _ q2 hnf
      exact ⟨sl3, q3⟩
    · exact osI
  first
    | exact wpAny_bind (wpAny_pure (wpAny_bind fin))
    | exact wpAny_bind fin
end

section
variable {X : Cx}
theorem thnX {α : Type} {t : Sem α} {Q Q' : α → Shared → Prop} {M : Model} {A : Around} {E : Value → Shared → Prop} {s : Shared} (h : wpAny M A t Q E s) (hQ : ∀ a s, Q a s → Q' a s) : wpAny M A t Q' E s := wpAny_mono h hQ fun _ _ z => z
/-- the core of a comprehension whose element may raise: as lc_core, the block's wish about exceptions is the def's -/
theorem lc_coreX {pins : List (Addr × Obj)} {s : Shared} {σ : St} {H : Hp} {Q : VK} {W : WX} {E : XK} {elt tg iter : Expr} {ifs : List Expr} {scope : Scope} {own : List (Str × Nat)} {pos pos' : Pos} {wi : TI} {g : TG} {tt : TT} {te : TE}
    (hst : X.stack = X.env :: X.outer) (hf : X.env.frame = some X.env.locals) (tk : Takes X W) (hW : ∀ cls d σ H, E cls d H → W cls d σ H)
    (hc : X.calm = true) (hN : X.N.Nodup) (I : Inv X pins σ H s) (hi : PI X tg iter wi) (ok : BlkOk X.N X.env.scope scope own)
    (hg : ∀ (s : Shared) (H : Hp) (C : Addr) (cl : List (Str × Addr)) (fp : List Addr), PG (KR.blkX X s H scope (compEnvC scope cl C X.env) fp) tg g) (ht : ∀ (s : Shared) (H : Hp) (C : Addr) (cl : List (Str × Addr)) (fp : List Addr), PTs (KR.blkX X s H scope (compEnvC scope cl C X.env) fp) ifs tt)
    (he : ∀ (s : Shared) (H : Hp) (C : Addr) (cl : List (Str × Addr)) (fp : List Addr), Passes (L2.CX X.prog X.w) (KR.blkX X s H scope (compEnvC scope cl C X.env) fp) E → PE (KR.blkX X s H scope (compEnvC scope cl C X.env) fp) elt te) (hs : ∀ x, foldedSetIterable iter X.env x = pure x)
    (h : tLc wi g tt te (own.map (·.2)) σ H Q) :
    wpAny (model X.prog X.w) X.A (comprehension (.ListComp elt [⟨tg, iter, ifs, 0⟩] scope pos) scope X.env pos' (newList []) false (eval iter X.env) none) (EP X pins σ Q) X.xe s := by
  have hfree : ∀ y ∈ scope.names, y.2 = .free → ∃ c, X.env.cells.lookup y.1 = some c := fun y hy e => by
    rcases ok.free y hy e with k | k
    · exact I.ok.has _ (.inl k)
    · exact I.ok.has _ (.inr k)
  refine comprehension_at (use := none) rfl hs (closure_ok hfree) ok.kind (fun y hy e => by rw [ok.uniq y hy, e])
    (thn (hi.run pins s σ H _ I h) fun xv s1 hx => thn hx fun itv s2 h2 => ?_)
  obtain ⟨it, fp, tn, J, H2, e, I2, T, st2, f2, q⟩ := h2
  subst e
  refine wpAny_newObj_type (newEnv_comp ?_) (by show 0 ≤ sizeLine; decide)
  generalize hD : s2.heap.objs.size = D
  have hDn : H2 D = none := I2.hok.fresh (Nat.le_of_eq hD)
  obtain ⟨Wt, ⟨m0, w0⟩, turn⟩ := q D hDn
  -- the new list
  generalize hs3 : ({ s2 with heap := s2.heap.push { cls := .type "list", data := .seq ([] : List Value).toArray } } : Shared) = s3
  have I3 : Inv X pins σ (upd H2 D (.lst [])) s3 := by
    rw [← hs3]
    refine I2.laid (t' := s2.toks) (fun b o e => Heap.get?_push_of_some _ e) (Nat.le_of_eq hD) ⟨Nat.zero_le _, [], 0, .nil, ?_⟩
    rw [← hD]
    exact Heap.get?_push_size _ rfl
  have h3 : s3.heap = s2.heap.push { cls := .type "list", data := .seq ([] : List Value).toArray } := by rw [← hs3]
  have sz : ∀ b ∈ fp, b < s2.heap.objs.size := fun b hb => by
    obtain ⟨o, e, _⟩ := T.obj _ _ st2 b hb
    exact Heap.lt_size e
  have f3 : ∀ b ∈ fp, FpOk X pins (upd H2 D (.lst [])) b ∧ b < s3.heap.objs.size := fun b hb => by
    have hlt := sz b hb
    refine ⟨⟨?_, (f2 b hb).2⟩, by rw [h3, Heap.size_push]; exact Nat.lt_succ_of_lt hlt⟩
    rw [upd_ne (by rw [← hD]; exact Nat.ne_of_lt hlt)]
    exact (f2 b hb).1
  have st3 : tn 0 s3.heap := T.keep _ _ _ st2 fun b _ o e => by rw [h3]; exact Heap.get?_push_of_some _ e
  have I4 := Inv.blkX (block_start I3 ok hN f3)
  have pg := hg s3 (upd H2 D (.lst [])) s3.heap.objs.size (cellsFrom (s3.heap.objs.size + 1) scope.names (cloFrom X.env.cells scope.names [])) fp
  have pt := ht s3 (upd H2 D (.lst [])) s3.heap.objs.size (cellsFrom (s3.heap.objs.size + 1) scope.names (cloFrom X.env.cells scope.names [])) fp
  have pe := he s3 (upd H2 D (.lst [])) s3.heap.objs.size (cellsFrom (s3.heap.objs.size + 1) scope.names (cloFrom X.env.cells scope.names [])) fp
    fun pins' σ' H5 s5 e5 s' I5 c5 => blk_passes hst hf tk hW rfl rfl I3 f3 I5 c5
  show codeAny _ _ (.compStart (.ListComp elt [⟨tg, iter, ifs, 0⟩] scope pos) 0 (.ref it) (.ref D) (compEnvC scope (cellsFrom (s3.heap.objs.size + 1) scope.names (cloFrom X.env.cells scope.names [])) s3.heap.objs.size X.env))
    (compEnds (model X.prog X.w) X.A X.xe none (EP X pins σ Q) (.ref D) (compEnvC scope (cellsFrom (s3.heap.objs.size + 1) scope.names (cloFrom X.env.cells scope.names [])) s3.heap.objs.size X.env)) { s3 with heap := pushCells (s3.heap.push { cls := .type "dict", data := .dict #[] }) scope.names }
  have nfp : ∀ b ∈ fp, (upd H2 D (.lst [])) b = none := fun b hb => (f3 b hb).1.1
  generalize hce : compEnvC scope (cellsFrom (s3.heap.objs.size + 1) scope.names (cloFrom X.env.cells scope.names [])) s3.heap.objs.size X.env = ce at I4 pg pt pe ⊢
  have cL : ce.locals = s3.heap.objs.size := by subst hce; rfl
  generalize hH3 : upd H2 D (.lst []) = H3 at I3 I4 pg pt pe w0 nfp f3
  generalize hs4 : ({ s3 with heap := pushCells (s3.heap.push { cls := .type "dict", data := .dict #[] }) scope.names } : Shared) = s4 at I4 ⊢
  have st4 : tn 0 s4.heap := T.keep _ _ _ st3 fun b _ o e => by rw [← hs4]; exact pushCells_keeps _ _ _ _ (Heap.get?_push_of_some _ e)
  have stat : ∀ {σ' : St} {H' : Hp} {s' : Shared}, Inv (KR.blkX X s3 H3 scope ce fp) [] σ' H' s' → (∀ b ∈ fp, H' b = none) → ∀ b ∈ fp, FpOk (KR.blkX X s3 H3 scope ce fp) [] H' b := fun {σ' H' s'} I' hn b hb =>
    ⟨hn b hb, (I'.ok.exf b hb).1, I'.ok.exfs b hb, .inl hb, fun x c e => (I'.ok.exf b hb).2 x c e, fun p hp => absurd (show p ∈ ([] : List (Addr × Obj)) ++ [] from hp) (by simp)⟩
  have loop : codeAny (model X.prog X.w) X.A (.compLoop (.ListComp elt [⟨tg, iter, ifs, 0⟩] scope pos) 0 (.ref it) (.ref D) ce) (compEnds (model X.prog X.w) X.A X.xe none (EP X pins σ Q) (.ref D) ce) s4 := by
    refine compLoop_any (fun n s' => ∃ i H', Inv (KR.blkX X s3 H3 scope ce fp) [] (wipe σ (own.map (·.2))) H' s' ∧ tn i s'.heap ∧ (∀ b ∈ fp, H' b = none) ∧ Wt i n H') ?_ m0 ⟨0, H3, I4, st4, nfp, w0⟩
    rintro n s5 ⟨i, H5, I5, st5, n5, w5⟩
    rcases turn i n H5 w5 with ⟨stop, qq⟩ | ⟨go, Nx, hNx, step⟩
    · have td := T.done (KR.blkX X s3 H3 scope ce fp) rfl rfl rfl hc i [] s5 _ H5 (blkXe X ce) I5 (stat I5 n5) st5 stop
      refine thnX td fun r s6 ⟨hr, I6⟩ => ?_
      subst hr
      -- back in the def's context
      have I7 : Inv X pins σ H5 s6 := I3.call' (ch := fp) I6.os I6.base I6.hok I6.bare fun b hb => ⟨(f3 b hb).1.2.2.2.1, (f3 b hb).1.2.1, (f3 b hb).1.2.2.2.2.1, (f3 b hb).1.2.2.2.2.2⟩
      have nC : H5 s3.heap.objs.size = none := by
        have z : H5 ce.locals = none := I6.free
        rw [cL] at z
        exact z
      obtain ⟨m, hn, _⟩ := I6.loc
      have hn : s6.heap.Ns ce.locals m := hn
      obtain ⟨p0, p1, p2, p3, p4, p5⟩ := I3.fpOk (H' := H5) (Nat.le_refl _) nC
      exact ⟨m, hn, fun h'' sb => ⟨.ref D, H5, I7.turned (it := s3.heap.objs.size) (t' := s6.toks) (fun b o hb e => (sb.2 b (by rw [cL]; exact hb)).trans e) p0 p1 p3 p4 p5, rfl, qq⟩⟩
    · have ti := T.item (KR.blkX X s3 H3 scope ce fp) rfl rfl rfl hc i [] s5 _ H5 (blkXe X ce) I5 (stat I5 n5) st5 go
      refine thnX ti fun r s6 ⟨u, hr, h6⟩ => ?_
      subst hr
      refine thnX h6 fun _ s7 ⟨x, H7, I7, r7, y7, st7, n7⟩ => ?_
      have I7' := I7.pinned (stat I7 n7) (T.obj _ _ st7)
      refine thnX (pg.run _ s7 _ H7 x u _ I7' r7 (step x H7 y7)) fun _ s8 ⟨σ8, H8, I8, hw8, q8⟩ => ?_
      refine thnX (pt.run _ s8 σ8 H8 _ I8 q8) fun b s9 ⟨H9, I9, q9⟩ => ?_
      -- the turn's end
      have fin : ∀ {s' : Shared} {H' : Hp}, Inv (KR.blkX X s3 H3 scope ce fp) ([] ++ pinsAt fp s7.heap) σ8 H' s' → Nx H' → ∃ m, m < n ∧ ∃ i H', Inv (KR.blkX X s3 H3 scope ce fp) [] (wipe σ (own.map (·.2))) H' s' ∧ tn i s'.heap ∧ (∀ b ∈ fp, H' b = none) ∧ Wt i m H' := fun {s' H'} I' nx => by
        obtain ⟨m', hm, w'⟩ := hNx H' nx
        have pin' : ∀ b ∈ fp, ∀ o, s7.heap.get? b = some o → s'.heap.get? b = some o ∧ H' b = none := fun b hb o e =>
          let z := I'.pin (b, o) (List.mem_append_right _ (List.mem_append_right _ (mem_pinsAt hb e)))
          ⟨z.1, z.2.1⟩
        have hl : (wipe σ (own.map (·.2))).length = σ8.length := by rw [← hw8, wipe_length]
        refine ⟨m', hm, i + 1, H', (I'.unpinned (pins := [])).weak hl (fun j v e => ?_), T.keep _ _ _ st7 fun b hb o e => (pin' b hb o e).1, fun b hb => ?_, w'⟩
        · rw [← hw8] at e
          exact (wipe_some e).1
        · obtain ⟨o, e, _⟩ := T.obj _ _ st7 b hb
          exact (pin' b hb o e).2
      cases b with
      | false =>
        simp only [Bool.false_eq_true, if_false] at q9 ⊢
        exact fin I9 q9
      | true =>
        simp only [if_true] at q9 ⊢
        refine thnX (pe.run _ s9 σ8 H9 _ I9 q9) fun z s10 ⟨yv, H10, I10, r10, acc, hD10, hz10, nx⟩ => ?_
        exact app_ok (X := KR.blkX X s3 H3 scope ce fp) I10 hD10 hz10 r10 fun s11 I11 => fin I11 nx
  exact codeAny_compStart_list loop (T.self X.A 0 _ _ _ st4 loop)
/-- [elt for target in iter], the element may raise what E says -/
theorem pe_lcX {W : WX} {E : XK} {elt tg iter : Expr} {ifs : List Expr} {scope : Scope} {own : List (Str × Nat)} {pos : Pos} {wi : TI} {g : TG} {tt : TT} {te : TE}
    (hst : X.stack = X.env :: X.outer) (hf : X.env.frame = some X.env.locals) (tk : Takes X W) (hW : ∀ cls d σ H, E cls d H → W cls d σ H) (hc : X.calm = true) (hN : X.N.Nodup) (hi : PI X tg iter wi) (ok : BlkOk X.N X.env.scope scope own)
    (hg : ∀ (s : Shared) (H : Hp) (C : Addr) (cl : List (Str × Addr)) (fp : List Addr), PG (KR.blkX X s H scope (compEnvC scope cl C X.env) fp) tg g) (ht : ∀ (s : Shared) (H : Hp) (C : Addr) (cl : List (Str × Addr)) (fp : List Addr), PTs (KR.blkX X s H scope (compEnvC scope cl C X.env) fp) ifs tt)
    (he : ∀ (s : Shared) (H : Hp) (C : Addr) (cl : List (Str × Addr)) (fp : List Addr), Passes (L2.CX X.prog X.w) (KR.blkX X s H scope (compEnvC scope cl C X.env) fp) E → PE (KR.blkX X s H scope (compEnvC scope cl C X.env) fp) elt te) (hs : ∀ x, foldedSetIterable iter X.env x = pure x := by intro _; rfl) :
    PE X (.ListComp elt [⟨tg, iter, ifs, 0⟩] scope pos) (tLc wi g tt te (own.map (·.2))) := by
  refine ⟨fun pins s σ H Q I h => ?_⟩
  rw [eval_ListComp]
  exact lc_coreX hst hf tk hW hc hN I hi ok hg ht he hs h
end
end L2.KR

/-! K53Rng: range(n) of any n as what is walked. -/
namespace L2.KR
open PySem PySem.Spec PyProof.Rows
theorem turn_long {P : Program} {w : World} {K : PySem.W.Frag} {tg : Expr} (it : Addr) (lo : Int) (n : Nat) : Turn P w K tg (Itr lo n) [it] it (fun i h => IsLongIter h it (lo + (i : Nat) * 1) ((n : Int) - (i : Nat)) 1) where
  mem := by simp
  obj := fun i h st b hb => by
    have e : b = it := by simpa using hb
    subst e
    exact ⟨_, st, fun v z => by
      have z' : Data.fields _ = Data.cell v := z
      cases z'⟩
  keep := fun i h h' st k => k it (by simp) _ st
  item := by
    intro X hP hw hK hc i pins s σ H E I hf st hg
    subst hP hw hK
    obtain ⟨f0, f1, f2, f3, f4, f5⟩ := hf it (by simp)
    have W := Walks.longrange (prog := X.prog) (w := X.w) (I.ok.hd hc) it lo 1 n
    refine W.item i s _ _ hg st fun v h' tk hv st' kk => ?_
    obtain ⟨t, rfl⟩ := hv
    have I1 : Inv X pins σ H { s with heap := h', toks := tk } := I.turned (fun b o hb e => kk b o (by simpa using hb) e) f0 f1 f3 f4 f5
    refine ⟨_, rfl, go_of (s := { s with heap := h', toks := tk }) (n := "longrange_iterator") st' rfl rfl (by decide) ⟨.int (lo + i), H, I1, ⟨t, ?_⟩, ⟨rfl, rfl⟩, st', fun b hb => (hf b hb).1⟩⟩
    rw [Int.mul_one]
  done := by
    intro X hP hw hK hc i pins s σ H E I hf st hg
    subst hP hw hK
    obtain ⟨f0, f1, f2, f3, f4, f5⟩ := hf it (by simp)
    exact wpAny_pyNext_long_end (I.ok.hd hc) st (by have : n ≤ i := hg; omega) fun h' eb => ⟨rfl, I.turned (t' := s.toks) (fun b o hb e => eb b o hb e) f0 f1 f3 f4 f5⟩
  self := fun _ _ _ _ _ st h => wpAny_pyIter_longiter st h
section
variable {X : Cx} {tg : Expr}
/-- a range object just made, walked: of any size -/
theorem range_itA {pins : List (Addr × Obj)} {σ : St} {H : Hp} {s : Shared} {R : It → Hp → Prop} {E : Value → Shared → Prop} {lo hi : Int} {t u v : Tok} {tk : Nat} (I : Inv X pins σ H s)
    (q : R (Itr lo (hi - lo).toNat) H) : wpAny (model X.prog X.w) X.A (pyIter (.ref s.heap.objs.size)) (PIE X pins σ tg R) E { s with heap := s.heap.push { cls := .type "range", data := .fields #[.int lo t, .int hi u, .int 1 v] }, toks := tk } := by
  have I1 : Inv X pins σ H { s with heap := s.heap.push { cls := .type "range", data := .fields #[.int lo t, .int hi u, .int 1 v] }, toks := tk } := I.kept fun b o e => Heap.get?_push_of_some _ e
  have e1 : lo + ((0 : Nat) : Int) * 1 = lo := by simp
  have e2 : (((hi - lo).toNat : Nat) : Int) - ((0 : Nat) : Int) = Builtin.Range.rangeSize lo hi 1 := by rw [rangeSize_one]; split <;> omega
  cases hs : Builtin.Range.small lo hi 1 with
  | true =>
    refine wpAny_pyIter_range (IsRange.new ..) hs ?_
    refine ⟨(s.heap.push { cls := .type "range", data := .fields #[.int lo t, .int hi u, .int 1 v] }).objs.size, [(s.heap.push { cls := .type "range", data := .fields #[.int lo t, .int hi u, .int 1 v] }).objs.size], _, _, H, rfl,
      I1.kept (t' := tk) fun b o e => Heap.get?_push_of_some _ e, turn_range _ lo (hi - lo).toNat, ?_, fun b hb => ?_, q⟩
    · show IsRangeIter _ _ (lo + ((0 : Nat) : Int) * 1) ((((hi - lo).toNat : Nat) : Int) - ((0 : Nat) : Int)) 1
      rw [e1, e2]
      exact Heap.get?_push_size _ rfl
    · have e : b = (s.heap.push { cls := .type "range", data := .fields #[.int lo t, .int hi u, .int 1 v] }).objs.size := by simpa using hb
      subst e
      exact I1.fpOk (Nat.le_refl _) (I1.hok.fresh (Nat.le_refl _))
  | false =>
    refine wpAny_pyIter_longrange (IsRange.new ..) hs ?_
    refine ⟨(s.heap.push { cls := .type "range", data := .fields #[.int lo t, .int hi u, .int 1 v] }).objs.size, [(s.heap.push { cls := .type "range", data := .fields #[.int lo t, .int hi u, .int 1 v] }).objs.size], _, _, H, rfl,
      I1.kept (t' := tk) fun b o e => Heap.get?_push_of_some _ e, turn_long _ lo (hi - lo).toNat, ?_, fun b hb => ?_, q⟩
    · show IsLongIter _ _ (lo + ((0 : Nat) : Int) * 1) ((((hi - lo).toNat : Nat) : Int) - ((0 : Nat) : Int)) 1
      rw [e1, e2]
      exact Heap.get?_push_size _ rfl
    · have e : b = (s.heap.push { cls := .type "range", data := .fields #[.int lo t, .int hi u, .int 1 v] }).objs.size := by simpa using hb
      subst e
      exact I1.fpOk (Nat.le_refl _) (I1.hok.fresh (Nat.le_refl _))
def iRngA (ta : TA) : TI := fun σ H R => ta σ H fun vs H1 => ∃ j : Int, vs = [.int j] ∧ R (Itr 0 j.toNat) H1
theorem pi_rangeA {a : Expr} {ta : TA} {p pos : Pos} (hg : Gl X "range") (hm : X.mg "range" = none) (ha : PA X [a] ta) (hs : starEach [a] X.env = [(false, eval a X.env)] := by rfl) : PI X tg (.Call (.Name "range" p) [a] [] pos) (iRngA ta) := by
  refine ⟨fun pins s σ H R I h => ?_⟩
  refine Call_ (ld_blt I hg hm boot_range (PyProof.Rows.callWith_type1 (thn (ha.run pos pins s σ H _ I h) fun us s1 ⟨vs, H1, I1, r1, q1⟩ => ?_) hs rfl))
  obtain ⟨j, e, q⟩ := q1
  subst e
  cases r1 with
  | cons r rr =>
    cases rr
    obtain ⟨t, rfl⟩ := r
    exact call_range_1 (range_itA I1 (by simpa using q))
end
end L2.KR

/-! K53Rule: small rules beside HandS: text * int, dict.update. -/
namespace L2.KR
open PySem PySem.Spec PyProof.Rows
section
variable {X : Cx}
/-- text * n of a short text, 1 < n -/
def rMulS : R2 := fun x y H Q => ∃ (z : Str) (n : Int), x = .str z ∧ y = .int n ∧ 1 < n ∧ n ≤ 1000 ∧ 0 < z.length ∧ z.length ≤ 1000 ∧ (⟨(List.replicate n.toNat z.cps).foldl (· ++ ·) #[]⟩ : Str).length ≤ sizeLine ∧ Q (.str ⟨(List.replicate n.toNat z.cps).foldl (· ++ ·) #[]⟩) H
theorem op_mulS : OpR X (binaryOp .Mult) rMulS := by
  intro pins s σ H x y v u Q I rx ry h
  obtain ⟨z, n, rfl, rfl, h1, h2, h3, h4, h5, q⟩ := h
  obtain ⟨t, rfl⟩ := rx
  obtain ⟨t', rfl⟩ := ry
  have e1 : ¬ n < 1 := by omega
  have e2 : (n == 1 || z.length == 0) = false := by
    have a : (n == 1) = false := by simp; omega
    have b : (z.length == 0) = false := by simp; omega
    rw [a, b]; rfl
  refine P.mul_str ?_ (fun _ _ => ?_) (fun _ _ => ?_) ?_
  · have a : ¬ n < -(2 ^ 63 : Int) := by omega
    have b : ¬ n ≥ 2 ^ 63 := by omega
    rw [decide_eq_false a, decide_eq_false b]; rfl
  · have : (1000 : Int) ≤ (2 ^ 63 - 1) / n := by
      apply Int.le_ediv_of_mul_le (by omega)
      have : (1000 : Int) * n ≤ 1000 * 1000 := by omega
      omega
    omega
  · have : z.length * n.toNat ≤ 1000 * 1000 := Nat.mul_le_mul h4 (by omega)
    show decide (z.length * n.toNat > sizeLine) = false
    rw [sizeLine_eq]
    exact decide_eq_false (by omega)
  · rw [if_neg e1, e2]
    simp only [Bool.false_eq_true, if_false]
    exact ⟨h5, .str _, H, I.tok _, ⟨_, rfl⟩, q⟩
/-- d.update(e), two dicts -/
def rUpdate : V → List V → Hp → VK → Prop := fun x vs H Q => ∃ (a b : Addr) (kvs more : List (Key × V)), x = .ref a ∧ vs = [.ref b] ∧ a ≠ b ∧ H a = some (.dK kvs) ∧ H b = some (.dK more) ∧ kvs.length + more.length ≤ sizeLine ∧ Q .non (upd H a (.dK (mergeK kvs more)))
theorem mt_update : MtR X "dict.update" rUpdate := by
  intro pins s σ H x vs v us Q I rx rv h
  obtain ⟨a, b, kvs, more, rfl, rfl, hab, ha, hb, hsz, q⟩ := h
  cases rx
  obtain ⟨u, rfl, ru⟩ := rv.one
  cases ru
  obtain ⟨z, hd, ws, rel, dd⟩ := dk_of I.hok ha
  obtain ⟨z2, hd2, ws2, rel2, dd2⟩ := dk_of I.hok hb
  refine call_meetsIn PySem.F.slot_dict_update dd.typeIs PySem.F.entry_dict_update (PySem.F.args_dict_update_2 _ _) (meets_dict_update (mixKind X.prog X.w) a b hab hd2)
    ⟨ws, ws2, dd, dd2, by rw [← rel.length, ← rel2.length]; exact hsz, fun h' dd' _ hs => ?_⟩
  have he : ∃ q, h'.get? a = some q := let ⟨q, _, _, hq, _⟩ := dd'; ⟨q, hq⟩
  have hl : (mergeK kvs more).length ≤ sizeLine := Nat.le_trans (length_mergeK more kvs) hsz
  exact ⟨.non, _, d_write (t' := s.toks) I (by rw [ha]; exact True.intro) hs he (dk_new hl hd (KV.merge rel2 rel) dd'), rfl, q⟩
end
end L2.KR

/-! K53Base: the text by places, values as data, what callers know. -/
namespace L2.KR
open PySem PySem.Spec PyProof.Rows K53
/-! ### the text by places -/
def top (i : Nat) : Stmt := PySem.Challenge.pw_tapline_k53_code_as_bytes_and_back.main.body.getD i (.Pass ⟨0, 0, 0, 0⟩)
/-! ### values -/
/-- a row of whole numbers -/
def nats (l : List Nat) : List V := l.map fun (n : Nat) => V.int ((n : Nat) : Int)
theorem nats_length (l : List Nat) : (nats l).length = l.length := List.length_map _
theorem nats_app (l m : List Nat) : nats (l ++ m) = nats l ++ nats m := List.map_append
theorem nats_get {l : List Nat} {i : Nat} {v : V} (h : (nats l)[i]? = some v) : ∃ n, l[i]? = some n ∧ v = .int (n : Int) := by
  unfold nats at h
  rw [List.getElem?_map] at h
  cases e : l[i]? with
  | none => rw [e] at h; cases h
  | some n => rw [e] at h; exact ⟨n, rfl, (Option.some.inj h).symm⟩
theorem nats_at {l : List Nat} {i : Nat} {n : Nat} (h : l[i]? = some n) : (nats l)[i]? = some (.int (n : Int)) := by
  unfold nats
  rw [List.getElem?_map, h]
  rfl
/-- all but p is as it was -/
def But (p : Addr) (H H' : Hp) : Prop := ∀ b o, b ≠ p → H b = some o → H' b = some o
theorem But.refl (p : Addr) (H : Hp) : But p H H := fun _ _ _ h => h
theorem But.trans {p : Addr} {H H1 H2 : Hp} (a : But p H H1) (b : But p H1 H2) : But p H H2 := fun c o n h => b c o n (a c o n h)
theorem _root_.L2.Same.but {p : Addr} {H H' : Hp} (a : Same H H') : But p H H' := fun c o _ h => a c o h
theorem But.upd {p : Addr} {H : Hp} {o : HO} : But p H (upd H p o) := fun b u n h => by rw [upd_ne n]; exact h
/-- p was not there: all that was there is as it was -/
theorem But.same {p : Addr} {H H' : Hp} (a : But p H H') (h : H p = none) : Same H H' := fun b o e => a b o (ne_of_none e h) e
theorem _root_.L2.Same.upd {p : Addr} {H : Hp} {o : HO} (h : H p = none) : Same H (upd H p o) := fun b u e => by rw [upd_ne (ne_of_none e h)]; exact e
theorem _root_.L2.Same.updAt {p : Addr} {H H' : Hp} {o : HO} (a : Same H H') (h : H p = none) : Same H (L2.upd H' p o) := fun b u e => by rw [upd_ne (ne_of_none e h)]; exact a b u e
theorem small {n : Nat} (h : n ≤ 1000000) : n ≤ sizeLine := Nat.le_trans h (by rw [sizeLine_eq]; decide)
theorem smallLt {n : Nat} (h : n ≤ 1000000) : n < sizeLine := Nat.lt_of_le_of_lt h (by rw [sizeLine_eq]; decide)
theorem ifT {c : Bool} {A B : Prop} (hc : c = true) (h : A) : if c = true then A else B := by
  rw [if_pos hc]
  exact h
theorem ifF {c : Bool} {A B : Prop} (hc : c = false) (h : B) : if c = true then A else B := by
  rw [hc, if_neg Bool.false_ne_true]
  exact h
theorem ref_new {H : Hp} {a b : Addr} {o : HO} (h : H a = some o) (h' : H b = none) : b ≠ a := fun e => by rw [e, h] at h'; cases h'
end L2.KR

namespace L2.KR
open PySem PySem.Spec PyProof.Rows K53
/-! ### count_bytes -/
def spCB : Sp := fun vs H Q _ => ∃ n : Nat, vs = [.int (n : Int)] ∧ (cb n).length ≤ 1000000 ∧ ∀ H' p, Same H H' → H p = none → H' p = some (.lst (nats (cb n))) → Q (.ref p) H'
abbrev sCB : Stmt := top 30
section
variable {P : Program} {w : World} {K : PySem.W.Frag} {mg : Str → Option Value} {base : Heap}
theorem scCB : FnScope ["number", "found"] ["number"] (defScope sCB) := ⟨rfl, rfl, rfl, by decide +kernel, rfl, by decide +kernel, by decide +kernel⟩
theorem ok_cb {f : Addr} {fd : FuncData} (F : Fun K "count_bytes" "count_bytes" sCB f fd) : FnOk P w K mg base CX0 1 f fd ["number"] spCB := by
  refine F.ok scCB (fun vs H Q E h => ?_) (fun cdv A outer s H vs Q E hr h => ?_)
  · obtain ⟨n, rfl, _⟩ := h
    rfl
  · obtain ⟨n, rfl, hz, k⟩ := h
    refine ⟨_, pss_cons (ps_set (i := 1) scCB.nd rfl (Or.inl rfl) (pe_lst pa_nil))
      (pss_cons (ps_while PassesOwn.never (pt_cmpR op_gt (pv 0) pe_int (nomark _))
        (pss_cons (ps_expr (pe_bm PySem.F.plainAttrs_list PySem.F.slot_list_append PySem.F.type_list_append mt_append (pv 1) (pa_cons (pe_op op_add pe_int (pe_op op_mod (pv 0) pe_int)) pa_nil)))
          (pss_one (ps_set (i := 0) scCB.nd rfl (Or.inl rfl) (pe_op op_fdiv (pv 0) pe_int)))))
      (pss_one (ps_ret (pe_op op_cat (pv 1) (pe_lst (pa_cons (pv 0) pa_nil)))))), ?_⟩
    refine ⟨Nat.zero_le _, fun l hl => ?_⟩
    refine ⟨fun m σ H' => ∃ (acc : List Nat) (j : Nat), m = j ∧ σ = [some (.int (j : Int)), some (.ref l)] ∧ Same H H' ∧ H' l = some (.lst (nats acc)) ∧ acc ++ cb j = cb n,
      ⟨n, [], n, rfl, rfl, Same.upd hl, upd_same, rfl⟩, ?_⟩
    rintro j σ H1 ⟨acc, _, rfl, rfl, s1, h1, e1⟩
    have la : acc.length ≤ 1000000 := by
      have := congrArg List.length e1
      rw [List.length_append] at this
      omega
    refine ⟨_, rfl, _, _, rfl, rfl, _, rfl, ?_⟩
    by_cases hj : j ≤ 127
    · refine ifF (decide_eq_false (by omega)) ?_
      refine ⟨_, rfl, _, rfl, by show 1 ≤ sizeLine; decide, fun q hq => ?_⟩
      refine ⟨l, q, nats acc, [.int (j : Int)], rfl, rfl, by rw [upd_ne (ne_of_none h1 hq)]; exact h1, upd_same, small (by rw [nats_length]; simp; rw [← e1, cb_small hj] at hz; simpa using hz), fun p hp => ?_⟩
      have hq0 : H q = none := s1.free hq
      have hp1 : (upd H1 q (.lst [.int (j : Int)])) p = none := hp
      have s2 : Same H (upd (upd H1 q (.lst [.int (j : Int)])) p (.lst (nats acc ++ [.int (j : Int)]))) := (s1.updAt hq0).trans (Same.upd hp1)
      refine k _ p s2 ((s1.updAt hq0).free hp1) ?_
      rw [upd_same, ← e1, cb_small hj, nats_app]
      rfl
    · refine ifT (decide_eq_true (by omega)) ?_
      refine ⟨fun σ' H' => ∃ (acc : List Nat) (i : Nat), i < j ∧ σ' = [some (.int (i : Int)), some (.ref l)] ∧ Same H H' ∧ H' l = some (.lst (nats acc)) ∧ acc ++ cb i = cb n, fun σ' H' ⟨acc', i, hi, e, s, h, q⟩ => ⟨i, hi, acc', i, rfl, e, s, h, q⟩, ?_⟩
      refine ⟨_, rfl, .inl ⟨rfl, _, SqL.of h1⟩, _, rfl, _, _, rfl, rfl, (by show (0 : Int) < 128; decide), _, _, rfl, rfl, l, _, _, rfl, rfl, h1, smallLt (by rw [nats_length]; exact la), ?_⟩
      refine ⟨_, rfl, _, _, rfl, rfl, ⟨by decide, by decide⟩, ?_⟩
      rw [cb_big hj] at e1
      refine ⟨acc ++ [128 + j % 128], j / 128, by omega, ?_, s1.updAt hl, ?_, by rw [← e1]; simp⟩
      · rfl
      · rw [upd_same, nats_app]
        rfl
end
end L2.KR

/-! K53Data: code as data of Python's. -/
namespace L2.KR
open PySem PySem.Spec PyProof.Rows K53
/-! ### words -/
def wds : List Str := ["const", "view", "arg", "reg", "get", "keep",
  "global", "thread", "array", "op", "compare",
  "minus", "not", "len", "cat", "sub", "text",
  "byte", "spec", "jump", "zero", "setglobal",
  "setthread", "setarray", "record", "put",
  "speculate", "commit", "discard", "stop",
  "skip", "end"]
def wd (j : Nat) : Str := wds.getD j Str.empty
def cws : Nat → List Str
  | 0 => ["now", "cpu", "pid", "tid",
    "at", "name"]
  | 1 => ["+", "-", "*", "/",
    "mod"]
  | 2 => ["==", "!=", "<", "<=",
    ">", ">="]
  | 3 => ["trace", "say"]
  | _ => []
def cw (c j : Nat) : Str := (cws c).getD j Str.empty
def kns : List Str := ["int", "str"]
def kn (j : Nat) : Str := kns.getD j Str.empty
/-- the name of a choice, as it is a sort -/
def cn : Nat → Str
  | 0 => "word"
  | 1 => "sign"
  | 2 => "compare"
  | _ => "sort"
def nm : Srt → Str
  | .d => "d"
  | .a => "a"
  | .mb => "maybe"
  | .k => "k"
  | .p => "p"
  | .i => "i"
  | .t => "t"
  | .value => "value"
  | .word => "word"
  | .sign => "sign"
  | .compare => "compare"
  | .sort => "sort"
  | .keys => "keys"
  | .members => "members"
/-! ### data -/
def dI (n : Nat) : PyData := .int ((n : Nat) : Int)
def datP : Prt → PyData
  | .reg n => .int n
  | .cnt n => dI n
  | .val i => .tuple [.str "int", .int i]
  | .txt s => .tuple [.str "str", .str (SX.S s)]
  | .wrd c j => .str (cw c j)
  | .pls l => .tuple (l.map dI)
def datR (r : K53.Row) : PyData := .tuple (.str (wd r.1) :: r.2.map datP)
def datC (c : K53.Code) : PyData := .tuple [.tuple (c.1.map fun k => .str (kn k)), .tuple (c.2.map datR)]

/-! ### Dp -/
section
variable {K : PySem.W.Frag} {H H' : Hp}
theorem _root_.L2.Same.seqT {a : Addr} {xs : List V} (e : Same H H') (h : SqT K H a xs) : SqT K H' a xs := by
  rcases h with (h | ⟨o, h⟩) | h
  · exact .inl (.inl (e _ _ h))
  · exact .inl (.inr ⟨o, e _ _ h⟩)
  · exact .inr h
mutual
theorem _root_.L2.Dp.mono (e : Same H H') : ∀ {v : V} {d : PyData}, Dp K H v d → Dp K H' v d
  | _, _, .non => .non
  | _, _, .bl b => .bl b
  | _, _, .int i => .int i
  | _, _, .str x => .str x
  | _, _, .lst h q => .lst (e.seq h) (DpAll.mono e q)
  | _, _, .tup h q => .tup (e.seqT h) (DpAll.mono e q)
theorem _root_.L2.DpAll.mono (e : Same H H') : ∀ {vs : List V} {ds : List PyData}, DpAll K H vs ds → DpAll K H' vs ds
  | _, _, .nil => .nil
  | _, _, .cons h q => .cons (Dp.mono e h) (DpAll.mono e q)
end
theorem _root_.L2.DpAll.app : ∀ {vs ws : List V} {ds es : List PyData}, DpAll K H vs ds → DpAll K H ws es → DpAll K H (vs ++ ws) (ds ++ es)
  | _, _, _, _, .nil, q => q
  | _, _, _, _, .cons h r, q => .cons h (DpAll.app r q)
theorem _root_.L2.DpAll.snoc {vs : List V} {v : V} {ds : List PyData} {d : PyData} (h : DpAll K H vs ds) (q : Dp K H v d) : DpAll K H (vs ++ [v]) (ds ++ [d]) := h.app (.cons q .nil)
theorem _root_.L2.DpAll.length : ∀ {vs : List V} {ds : List PyData}, DpAll K H vs ds → vs.length = ds.length
  | _, _, .nil => rfl
  | _, _, .cons _ q => by rw [List.length_cons, List.length_cons, DpAll.length q]
theorem _root_.L2.DpAll.get : ∀ {vs : List V} {ds : List PyData} {i : Nat} {v : V}, DpAll K H vs ds → vs[i]? = some v → ∃ d, ds[i]? = some d ∧ Dp K H v d
  | _, _, _, _, .nil, e => by simp at e
  | _, _, 0, _, .cons h _, e => by simp at e; subst e; exact ⟨_, rfl, h⟩
  | _, _, i + 1, v, .cons _ q, e => by
    obtain ⟨d, h1, h2⟩ := DpAll.get (i := i) (v := v) q (by simpa using e)
    exact ⟨d, by simpa using h1, h2⟩
theorem _root_.L2.DpAll.getD : ∀ {vs : List V} {ds : List PyData} {i : Nat} {d : PyData}, DpAll K H vs ds → ds[i]? = some d → ∃ v, vs[i]? = some v ∧ Dp K H v d
  | _, _, _, _, .nil, e => by simp at e
  | _, _, 0, _, .cons h _, e => by simp at e; subst e; exact ⟨_, rfl, h⟩
  | _, _, i + 1, v, .cons _ q, e => by
    obtain ⟨d, h1, h2⟩ := DpAll.getD (i := i) (d := v) q (by simpa using e)
    exact ⟨d, by simpa using h1, h2⟩
theorem _root_.L2.Dp.int_inv {v : V} {i : Int} (h : Dp K H v (.int i)) : v = .int i := by cases h; rfl
theorem _root_.L2.Dp.str_inv {v : V} {x : Str} (h : Dp K H v (.str x)) : v = .str x := by cases h; rfl
theorem _root_.L2.Dp.tup_inv {v : V} {ds : List PyData} (h : Dp K H v (.tuple ds)) : ∃ a xs, v = .ref a ∧ SqT K H a xs ∧ DpAll K H xs ds := by cases h with | tup s q => exact ⟨_, _, rfl, s, q⟩
theorem _root_.L2.Dp.lst_inv {v : V} {ds : List PyData} (h : Dp K H v (.list ds)) : ∃ a xs, v = .ref a ∧ SqL K H a xs ∧ DpAll K H xs ds := by cases h with | lst s q => exact ⟨_, _, rfl, s, q⟩
theorem dp_strs (f : Nat → Str) : ∀ l : List Nat, DpAll K H (l.map fun k => V.str (f k)) (l.map fun k => .str (f k))
  | [] => .nil
  | _ :: r => .cons (.str _) (dp_strs f r)
theorem dp_nats : ∀ l : List Nat, DpAll K H (nats l) (l.map dI)
  | [] => .nil
  | n :: r => .cons (.int _) (dp_nats r)
theorem _root_.L2.DpAll.nats_inv : ∀ {l : List Nat} {vs : List V}, DpAll K H vs (l.map dI) → vs = nats l
  | [], _, .nil => rfl
  | n :: r, _, .cons h q => by
    have e := Dp.int_inv h
    have e2 := DpAll.nats_inv (l := r) q
    subst e e2
    rfl
theorem _root_.L2.DpAll.strs_inv {f : Nat → Str} : ∀ {l : List Nat} {vs : List V}, DpAll K H vs (l.map fun k => .str (f k)) → vs = l.map fun k => V.str (f k)
  | [], _, .nil => rfl
  | n :: r, _, .cons h q => by
    have e := Dp.str_inv h
    have e2 := DpAll.strs_inv (l := r) q
    subst e e2
    rfl
end
/-! ### equality -/
theorem eqv_nats : ∀ l m : List Nat, PyData.eqvAll (l.map dI) (m.map dI) = decide (l = m)
  | [], [] => rfl
  | [], _ :: _ => rfl
  | _ :: _, [] => rfl
  | a :: l, b :: m => by
    have ih := eqv_nats l m
    show (PyData.eqv (dI a) (dI b) && PyData.eqvAll (l.map dI) (m.map dI)) = _
    rw [ih]
    have e : PyData.eqv (dI a) (dI b) = decide (a = b) := by
      show (((a : Nat) : Int) == ((b : Nat) : Int)) = _
      by_cases h : a = b
      · subst h; simp
      · have : ¬ ((a : Nat) : Int) = ((b : Nat) : Int) := by omega
        simp [h, this]
    rw [e]
    by_cases h1 : a = b <;> by_cases h2 : l = m <;> simp [h1, h2]
theorem lay_nats : ∀ l : List Nat, PyData.canLayAll0 (l.map dI) = true
  | [] => rfl
  | a :: l => by
    show (PyData.canLay0 (dI a) && PyData.canLayAll0 (l.map dI)) = true
    rw [lay_nats l]
    rfl
theorem depth_nats : ∀ l : List Nat, PyData.depthAll (l.map dI) = 0
  | [] => rfl
  | a :: l => by
    show max (PyData.depth (dI a)) (PyData.depthAll (l.map dI)) = 0
    rw [depth_nats l]
    rfl
theorem shaped_nats (l : List Nat) : SeqAt.shaped (.list (l.map dI)) = true := by
  show (PyData.canLayAll0 (l.map dI) && decide (PyData.depthAll (l.map dI) + 1 ≤ 64)) = true
  rw [lay_nats, depth_nats]
  rfl
end L2.KR

/-! K53Txt: what the top has written. -/
namespace L2.KR
open PySem PySem.Spec PyProof.Rows K53
/-- a tuple of the written part -/
def KT (K : PySem.W.Frag) (a : Addr) (xs : List V) : Prop := ∃ (its : Array Value) (n : Nat) (sl : Array (Option Value)), K.lookup a = some ⟨.type "tuple", none, .seq its n, sl⟩ ∧ its.size ≤ sizeLine ∧ Vals xs its.toList
theorem KT.sq {K : PySem.W.Frag} {H : Hp} {a : Addr} {xs : List V} (h : KT K a xs) : SqT K H a xs := by
  obtain ⟨its, n, sl, h1, h2, h3⟩ := h
  exact .inr ⟨_, its, n, h1, rfl, rfl, h2, h3⟩
theorem KT.ty {K : PySem.W.Frag} {H : Hp} {a : Addr} {xs : List V} (h : KT K a xs) : tyV K "tuple" (.ref a) H := by
  obtain ⟨its, n, sl, h1, h2, h3⟩ := h
  exact .inr (.inl ⟨rfl, _, h1, rfl, rfl⟩)
theorem KT.tyx {K : PySem.W.Frag} {H : Hp} {a : Addr} {xs : List V} (h : KT K a xs) : TyX K H (.ref a) (.type "tuple") := by
  obtain ⟨its, n, sl, h1, h2, h3⟩ := h
  exact .kTuple h1 rfl
/-- a module's name that holds a tuple of texts -/
def Words (K : PySem.W.Frag) (mg : Str → Option Value) (x : Str) (l : List Str) : Prop := ∃ a, mg x = some (.ref a) ∧ KT K a (l.map V.str)
/-- a module's name that holds an object -/
theorem pe_gref {X : Cx} {x : Str} {a : Addr} {pos : Pos} (hg : Gl X x) (hm : X.mg x = some (.ref a)) (hd : (x == ("__debug__" : Str)) = false := by decide) : PE X (.Name x pos) (tC (.ref a)) := pe_glob (v := .ref a) hg hm rfl hd
structure Txt (w : World) (K : PySem.W.Frag) (mg : Str → Option Value) : Prop where
  rng : ∃ u, mg "RANGE" = some u ∧ RelV (.int 18446744073709551616) u
  half : ∃ u, mg "HALF" = some u ∧ RelV (.int 9223372036854775808) u
  longest : ∃ u, mg "LONGEST" = some u ∧ RelV (.int 32) u
  regs : ∃ u, mg "REGISTERS" = some u ∧ RelV (.int 8) u
  words : Words K mg "WORDS" wds
  views : Words K mg "VIEW_WORDS" (cws 0)
  signs : Words K mg "SIGNS" (cws 1)
  comps : Words K mg "COMPARES" (cws 2)
  sorts : Words K mg "SORTS" (cws 3)
  kinds : Words K mg "KINDS" kns
  regp : Words K mg "REGISTER_PARTS" ["d", "a", "maybe", "k"]
  cnts : Words K mg "COUNTS" ["p", "i", "t"]
  parts : ∃ a, mg "PARTS" = some (.ref a) ∧ ∀ j, j < 32 → ∃ t, KDct K w a (wd j) (.ref t) ∧ KT K t ((srt j).map fun s => V.str (nm s))
  chs : ∃ a es n, mg "CHOICES" = some (.ref a) ∧ KDict K w a es n ∧ (∀ c, c < 4 → ∃ t, PySem.W.nsIn K a (cn c) = some (some (.ref t)) ∧ KT K t ((cws c).map V.str)) ∧ PySem.W.nsIn K a "keys" = some none ∧ PySem.W.nsIn K a "members" = some none
  chars : ∃ a b c d e, mg "CHARS" = some (.ref a) ∧ KT K a [.ref b, .ref c, .ref d, .ref e] ∧ KT K b [.int 32, .str (SX.S [32, 33])] ∧ KT K c [.int 35, .str (SX.S [35, 36])] ∧
    KT K d [.int 38, .str (SX.S ((List.range 54).map (· + 38)))] ∧ KT K e [.int 93, .str (SX.S ((List.range 34).map (· + 93)))]
  len : mg "len" = none
  isi : mg "isinstance" = none
  int : mg "int" = none
  str : mg "str" = none
  bool : mg "bool" = none
  tup : mg "tuple" = none
  list : mg "list" = none
  range : mg "range" = none
  all : mg "all" = none
  ord : mg "ord" = none
  abs : mg "abs" = none
end L2.KR

namespace L2.KR
open PySem PySem.Spec PyProof.Rows K53
/-! ### value_bytes -/
/-- a new list of bytes is handed back -/
def Gives (l : List Nat) (H : Hp) (Q : VK) : Prop := ∀ H' p, Same H H' → H p = none → H' p = some (.lst (nats l)) → Q (.ref p) H'
def spVB (K : PySem.W.Frag) : Sp := fun vs H Q _ => ∃ (v : V) (x : Prt), vs = [v] ∧ ((∃ i, x = .val i) ∨ ∃ s, x = .txt s) ∧ Dp K H v (datP x) ∧ (encP x).length ≤ 1000000 ∧ Gives (encP x) H Q
abbrev sVB : Stmt := top 31
section
variable {P : Program} {w : World} {K : PySem.W.Frag} {mg : Str → Option Value} {base : Heap}
theorem scVB : FnScope ["value", "rest", "found", "_", "char"] ["value"] (defScope sVB) := ⟨rfl, rfl, rfl, by decide +kernel, rfl, by decide +kernel, by decide +kernel⟩
theorem nats_app' (n : Nat) (l : List Nat) : nats (n :: l) = [V.int (n : Int)] ++ nats l := rfl
theorem unsig_cast (i : Int) : ((unsig i : Nat) : Int) = i % 18446744073709551616 := by
  unfold unsig
  have e64 : (2 : Int) ^ 64 = 18446744073709551616 := by decide
  rw [e64]
  omega
theorem ok_vb {f : Addr} {fd : FuncData} (F : Fun K "value_bytes" "value_bytes" sVB f fd) (T : Txt w K mg) (cCB : C8.Cal P w K mg base 1 "count_bytes" spCB []) : FnOk P w K mg base CX0 2 f fd ["value"] (spVB K) := by
  refine F.ok scVB (fun vs H Q E h => ?_) (fun cdv A outer s H vs Q E hr h => ?_)
  · obtain ⟨v, x, rfl, _⟩ := h
    rfl
  · obtain ⟨v, x, rfl, hx, hd, hz, k⟩ := h
    refine ⟨_, pss_cons (ps_if (pt_cmpR op_eq (pe_ix ix_tup (pv 0) pe_int (fun _ _ => rfl)) pe_str (nomark _))
        (pss_one (ps_ret (pe_op op_cat (pe_op op_cat (pe_lst (pa_cons pe_int pa_nil)) (C8.pe_c cCB hr (by decide) (by rfl) (pa_cons (pe_callB call_len_str (by rfl) T.len PySem.boot_len (pa_cons (pe_ix ix_tup (pv 0) pe_int (fun _ _ => rfl)) pa_nil)) pa_nil)))
          (pe_lc (own := [("char", 4)]) (g := gName 4) (tt := tYes) rfl scVB.nd (pi_str (pe_ix ix_tup (pv 0) pe_int (fun _ _ => rfl))) (blkOk_by (N := ["value", "rest", "found", "_", "char"]) (sc := defScope sVB) (by decide +kernel))
            (fun _ _ _ _ _ => pg_name (i := 4) scVB.nd rfl (Or.inl rfl)) (fun _ _ _ _ _ => pts_nil) (fun _ _ _ _ _ => pe_callB call_ord (by rfl) T.ord (by decide +kernel) (pa_cons (pv 4) pa_nil)))))) pss_nil)
      (pss_cons (ps_set (i := 1) scVB.nd rfl (Or.inl rfl) (pe_op op_mod (pe_ix ix_tup (pv 0) pe_int (fun _ _ => rfl)) (C8.pe_gc (by rfl) T.rng)))
      (pss_cons (ps_set (i := 2) scVB.nd rfl (Or.inl rfl) (pe_lst (pa_cons pe_int pa_nil)))
      (pss_cons (ps_for PassesOwn.never rfl (pi_range1 (by rfl) T.range (pa_cons pe_int pa_nil)) (pg_name (i := 3) scVB.nd rfl (Or.inl rfl))
        (pss_cons (ps_expr (pe_bm PySem.F.plainAttrs_list PySem.F.slot_list_append PySem.F.type_list_append mt_append (pv 2) (pa_cons (pe_op op_mod (pv 1) pe_int) pa_nil)))
          (pss_one (ps_set (i := 1) scVB.nd rfl (Or.inl rfl) (pe_op op_fdiv (pv 1) pe_int)))))
      (pss_one (ps_ret (pv 2)))))), ?_⟩
    rcases hx with ⟨i, rfl⟩ | ⟨t, rfl⟩
    · -- a number
      obtain ⟨a, xs, rfl, hq, hda⟩ := hd.tup_inv
      have hda' := hda
      cases hda with
      | cons h1 r1 =>
        cases r1 with
        | cons h2 r2 =>
          cases r2
          obtain rfl := h1.str_inv
          obtain rfl := h2.int_inv
          refine ⟨_, rfl, a, _, 0, _, rfl, rfl, hq, rfl, rfl, _, rfl, ifF (decide_eq_false (by intro e; exact absurd (V.str.inj e) (by decide +kernel))) ?_⟩
          refine ⟨_, rfl, a, _, 1, _, rfl, rfl, hq, rfl, _, _, rfl, rfl, (by show (0 : Int) < 18446744073709551616; decide), ?_⟩
          refine ⟨by show 1 ≤ sizeLine; decide, fun l hl => ?_⟩
          refine ⟨8, rfl, by decide, by decide, for_range (n := 8) (fun j σ H' => ∃ v3 : Option V, σ = [some (.ref a), some (.int ((unsig i / 256 ^ j : Nat) : Int)), some (.ref l), v3, none] ∧ Same H H' ∧ H' l = some (.lst (nats (0 :: leB j (unsig i)))))
            ⟨none, ?_, Same.upd hl, upd_same⟩ ?_ ?_⟩
          · rw [Nat.pow_zero, Nat.div_one, unsig_cast]
            rfl
          · rintro j σ H1 hj ⟨v3, rfl, s1, h1⟩
            refine ⟨_, rfl, .inl ⟨rfl, _, SqL.of h1⟩, _, rfl, _, _, rfl, rfl, (by show (0 : Int) < 256; decide), l, _, _, rfl, rfl, h1, smallLt (by rw [nats_length]; simp [leB_length]; omega), ?_⟩
            refine ⟨_, rfl, _, _, rfl, rfl, ⟨by decide, by decide⟩, ?_⟩
            refine ⟨some (.int (0 + (j : Int))), ?_, s1.updAt hl, ?_⟩
            · have e : unsig i / 256 ^ (j + 1) = unsig i / 256 ^ j / 256 := by rw [Nat.div_div_eq_div_mul, Nat.pow_succ]
              rw [e]
              rfl
            · rw [upd_same, leB_snoc, ← List.cons_append, nats_app]
              rfl
          · rintro σ H1 ⟨v3, rfl, s1, h1⟩
            exact ⟨_, rfl, k _ l s1 hl h1⟩
    · -- a text
      obtain ⟨a, xs, rfl, hq, hda⟩ := hd.tup_inv
      cases hda with
      | cons h1 r1 =>
        cases r1 with
        | cons h2 r2 =>
          cases r2
          obtain rfl := h1.str_inv
          obtain rfl := h2.str_inv
          have hl : t.length ≤ 1000000 := by
            simp only [encP, List.length_cons, List.length_append] at hz
            omega
          have hl2 : (SX.S t).length = t.length := SX.S_len t
          refine ⟨_, rfl, a, _, 0, _, rfl, rfl, hq, rfl, rfl, _, rfl, ifT (decide_eq_true rfl) ?_⟩
          refine ⟨by show 1 ≤ sizeLine; decide, fun l hl1 => ?_⟩
          have s0 : Same H (upd H l (.lst [.int 1])) := Same.upd hl1
          refine ⟨_, rfl, a, _, 1, _, rfl, rfl, s0.seqT hq, rfl, _, rfl, by rw [hl2]; exact small hl, t.length, by rw [hl2]; rfl, ?_, fun H1 p1 s1 n1 h1 => ?_⟩
          · simp only [encP, List.length_cons, List.length_append] at hz
            omega
          refine ⟨l, p1, _, _, rfl, rfl, s1 _ _ upd_same, h1, small (by simp only [encP, List.length_cons, List.length_append] at hz; rw [nats_length]; simp; omega), fun p2 n2 => ?_⟩
          have s2 : Same H (upd H1 p2 (.lst ([V.int 1] ++ nats (cb t.length)))) := (s0.trans s1).trans (Same.upd n2)
          have np2 : H p2 = none := (s0.trans s1).free n2
          refine ⟨_, rfl, a, _, 1, _, rfl, rfl, s2.seqT hq, rfl, _, rfl, fun D nD => ?_⟩
          refine lc_it walk_str (fun j H' => Same (upd H1 p2 (.lst ([V.int 1] ++ nats (cb t.length)))) H' ∧ H' D = some (.lst (nats (t.take j)))) ⟨Same.upd nD, upd_same⟩ (fun _ _ _ _ => True.intro) ?_ ?_
          · rintro j x2 H2 H2' hj ⟨s3, h3⟩ ⟨rfl, c, hc, rfl⟩
            have hc' : t[j]? = some c := by
              have : (SX.S t).cps[j]? = some c := hc
              simpa [SX.S] using this
            refine ⟨rfl, _, rfl, _, rfl, rfl, _, h3, smallLt (by rw [nats_length, List.length_take]; omega), ?_⟩
            refine ⟨s3.updAt nD, ?_⟩
            rw [upd_same, List.take_add_one, hc', nats_app]
            rfl
          · rintro H2 ⟨s3, h3⟩
            have e : t.take (SX.S t).cps.size = t := List.take_of_length_le (by simp [SX.S])
            rw [e] at h3
            refine ⟨p2, D, _, _, rfl, rfl, s3 _ _ upd_same, h3, small (by simp only [encP, List.length_cons, List.length_append] at hz; simp [nats_length]; omega), fun p3 n3 => ?_⟩
            have s4 : Same H H2 := s2.trans s3
            refine k _ p3 (s4.updAt (s4.free n3)) (s4.free n3) ?_
            rw [upd_same]
            have e3 : nats (1 :: (cb t.length ++ t)) = [V.int 1] ++ nats (cb t.length) ++ nats t := by
              rw [nats_app' 1, nats_app]
              rfl
            simp only [encP]
            rw [e3]
end
end L2.KR

namespace L2.KR
open PySem PySem.Spec PyProof.Rows K53
/-! ### part_bytes -/
def isReg : Srt → Bool
  | .d => true
  | .a => true
  | .mb => true
  | .k => true
  | _ => false
def isCnt : Srt → Bool
  | .p => true
  | .i => true
  | .t => true
  | _ => false
theorem in_regs : ∀ s : Srt, inV (.str (nm s)) ((["d", "a", "maybe", "k"] : List Str).map V.str) = isReg s := by
  intro s; cases s <;> decide +kernel
theorem in_cnts : ∀ s : Srt, inV (.str (nm s)) ((["p", "i", "t"] : List Str).map V.str) = isCnt s := by
  intro s; cases s <;> decide +kernel
theorem is_value : ∀ s : Srt, decide (V.str (nm s) = V.str "value") = decide (s = .value) := by
  intro s; cases s <;> decide +kernel
theorem cw_here {c j : Nat} (h : j < (cws c).length) : (cws c)[j]? = some (cw c j) := by
  unfold cw
  rw [List.getD_eq_getElem?_getD, List.getElem?_eq_getElem h]
  rfl
theorem cws_len : ∀ c, c < 4 → (cws c).length = nC c := by decide
theorem cw_first : ∀ c, c < 4 → ∀ j, j < nC c → ∀ m, m < j → (cws c)[m]? ≠ some (cw c j) := by decide +kernel
theorem nm_cn : nm .word = cn 0 ∧ nm .sign = cn 1 ∧ nm .compare = cn 2 ∧ nm .sort = cn 3 := ⟨rfl, rfl, rfl, rfl⟩
def spPB (K : PySem.W.Frag) : Sp := fun vs H Q _ => ∃ (s : Srt) (v : V) (x : Prt), vs = [.str (nm s), v] ∧ typP s x ∧ Dp K H v (datP x) ∧ (encP x).length ≤ 1000000 ∧ Gives (encP x) H Q
abbrev sPB : Stmt := top 32
section
variable {P : Program} {w : World} {K : PySem.W.Frag} {mg : Str → Option Value} {base : Heap}
theorem scPB : FnScope ["sort", "part", "found", "place"] ["sort", "part"] (defScope sPB) := ⟨rfl, rfl, rfl, by decide +kernel, rfl, by decide +kernel, by decide +kernel⟩
theorem ok_pb {f : Addr} {fd : FuncData} (F : Fun K "part_bytes" "part_bytes" sPB f fd) (T : Txt w K mg) (cCB : C8.Cal P w K mg base 1 "count_bytes" spCB []) (cVB : C8.Cal P w K mg base 2 "value_bytes" (spVB K) []) : FnOk P w K mg base CX0 3 f fd ["sort", "part"] (spPB K) := by
  obtain ⟨aR, mR, kR⟩ := T.regp
  obtain ⟨aN, mN, kN⟩ := T.cnts
  obtain ⟨aC, es, nn, mC, kC, hC, hk, hm⟩ := T.chs
  refine F.ok scPB (fun vs H Q E h => ?_) (fun cdv A outer s0 H vs Q E hr h => ?_)
  · obtain ⟨s, v, x, rfl, _⟩ := h
    rfl
  · obtain ⟨s, v, x, rfl, ht, hd, hz, k⟩ := h
    have hr1 : Room 1 _ := hr.mono (by decide)
    refine ⟨_, pss_cons (ps_if (pt_cmpR op_in_seq (pv 0) (pe_gref (by rfl) mR) (by rfl)) (pss_one (ps_ret (pe_lst (pa_cons (pe_op op_mod (pv 1) pe_int) pa_nil)))) pss_nil)
      (pss_cons (ps_if (pt_cmpR op_in_seq (pv 0) (pe_gref (by rfl) mN) (by rfl)) (pss_one (ps_ret (C8.pe_c cCB hr1 (by decide) (by rfl) (pa_cons (pv 1) pa_nil)))) pss_nil)
      (pss_cons (ps_if (pt_cmpR op_eq (pv 0) pe_str (nomark _)) (pss_one (ps_ret (C8.pe_c cVB hr (by decide) (by rfl) (pa_cons (pv 1) pa_nil)))) pss_nil)
      (pss_cons (ps_if (pt_cmpR (op_in_kd kC) (pv 0) (pe_gref (by rfl) mC) (by rfl))
        (pss_one (ps_ret (pe_lst (pa_cons (pe_bm PySem.F.plainAttrs_tuple PySem.F.slot_tuple_index PySem.F.type_tuple_index mt_tup_index (pe_ix ix_kdict (pe_gref (by rfl) mC) (pv 0) (fun _ _ => rfl)) (pa_cons (pv 1) pa_nil)) pa_nil)))) pss_nil)
      (pss_cons (ps_set (i := 2) scPB.nd rfl (Or.inl rfl) (C8.pe_c cCB hr1 (by decide) (by rfl) (pa_cons (pe_callB call_len_seq (by rfl) T.len PySem.boot_len (pa_cons (pv 1) pa_nil)) pa_nil)))
      (pss_cons (ps_for PassesOwn.never rfl (pi_tup (pv 1)) (pg_name (i := 3) scPB.nd rfl (Or.inl rfl))
        (pss_one (ps_expr (pe_bm PySem.F.plainAttrs_list PySem.F.slot_list_extend PySem.F.type_list_extend mt_extend (pv 2) (pa_cons (C8.pe_c cCB hr1 (by decide) (by rfl) (pa_cons (pv 3) pa_nil)) pa_nil)))))
      (pss_one (ps_ret (pv 2)))))))), ?_⟩
    refine ⟨_, rfl, aR, _, rfl, .inr kR.sq, rfl, by decide +kernel, _, rfl, ?_⟩
    have eR := in_regs s
    cases x with
    | reg n =>
      have hs : isReg s = true := by cases s <;> first | rfl | exact False.elim ht
      have hb : 0 < 256 ∧ True := ⟨by decide, trivial⟩
      obtain rfl := hd.int_inv
      refine ifT (by show inV _ _ = true; rw [eR, hs]) ?_
      refine ⟨_, rfl, _, _, rfl, rfl, (by show (0 : Int) < 256; decide), by show 1 ≤ sizeLine; decide, fun p np => ?_⟩
      refine k _ p (Same.upd np) np ?_
      rw [upd_same]
      have e : (((n % 256).toNat : Nat) : Int) = n % 256 := by omega
      show some (HO.lst [V.int (n % 256)]) = some (HO.lst [V.int (((n % 256).toNat : Nat) : Int)])
      rw [e]
    | cnt n =>
      have hs : isReg s = false ∧ isCnt s = true := by cases s <;> first | exact ⟨rfl, rfl⟩ | exact False.elim ht
      obtain rfl := hd.int_inv
      refine ifF (by show inV _ _ = false; rw [eR, hs.1]) ?_
      refine ⟨_, rfl, aN, _, rfl, .inr kN.sq, rfl, by decide +kernel, _, rfl, ?_⟩
      refine ifT (by show inV _ _ = true; rw [in_cnts, hs.2]) ?_
      exact ⟨_, rfl, n, rfl, hz, k⟩
    | val i =>
      have hs : s = .value := by cases s <;> first | rfl | exact False.elim ht
      subst hs
      refine ifF (by show inV _ _ = false; rw [eR]; rfl) ?_
      refine ⟨_, rfl, aN, _, rfl, .inr kN.sq, rfl, by decide +kernel, _, rfl, ?_⟩
      refine ifF (by show inV _ _ = false; rw [in_cnts]; rfl) ?_
      refine ⟨_, rfl, rfl, _, rfl, ifT (decide_eq_true rfl) ?_⟩
      exact ⟨_, rfl, v, _, rfl, .inl ⟨i, rfl⟩, hd, hz, k⟩
    | txt t =>
      have hs : s = .value := by cases s <;> first | rfl | exact False.elim ht
      subst hs
      refine ifF (by show inV _ _ = false; rw [eR]; rfl) ?_
      refine ⟨_, rfl, aN, _, rfl, .inr kN.sq, rfl, by decide +kernel, _, rfl, ?_⟩
      refine ifF (by show inV _ _ = false; rw [in_cnts]; rfl) ?_
      refine ⟨_, rfl, rfl, _, rfl, ifT (decide_eq_true rfl) ?_⟩
      exact ⟨_, rfl, v, _, rfl, .inr ⟨t, rfl⟩, hd, hz, k⟩
    | wrd c j =>
      have hs : isReg s = false ∧ isCnt s = false ∧ s ≠ .value ∧ c < 4 ∧ nm s = cn c ∧ j < nC c := by
        cases s <;> first
          | exact False.elim ht
          | (obtain ⟨rfl, hj⟩ := ht; exact ⟨rfl, rfl, by decide, by decide, rfl, hj⟩)
      obtain ⟨h1, h2, h3, h4, h5, h6⟩ := hs
      obtain rfl := hd.str_inv
      obtain ⟨t, e1, kt⟩ := hC c h4
      refine ifF (by show inV _ _ = false; rw [eR, h1]) ?_
      refine ⟨_, rfl, aN, _, rfl, .inr kN.sq, rfl, by decide +kernel, _, rfl, ?_⟩
      refine ifF (by show inV _ _ = false; rw [in_cnts, h2]) ?_
      refine ⟨_, rfl, rfl, _, rfl, ifF (by rw [is_value]; exact decide_eq_false h3) ?_⟩
      refine ⟨_, rfl, _, _, rfl, rfl, by rw [h5]; exact e1, _, rfl, ifT rfl ?_⟩
      refine ⟨_, rfl, aC, _, .ref t, rfl, rfl, ⟨es, nn, _, kC.at_, kC.lit, by rw [h5]; exact e1, rfl⟩, kt.ty, _, rfl, t, cws c, _, j, rfl, rfl, kt.sq, cw_here (by rw [cws_len c h4]; exact h6), cw_first c h4 j h6, by show 1 ≤ sizeLine; decide, fun p np => ?_⟩
      exact k _ p (Same.upd np) np upd_same
    | pls l =>
      have hs : isReg s = false ∧ isCnt s = false ∧ s ≠ .value ∧ PySem.W.nsIn K aC (nm s) = some none := by
        cases s <;> first
          | exact False.elim ht
          | exact ⟨rfl, rfl, by decide, hk⟩
          | exact ⟨rfl, rfl, by decide, hm⟩
      obtain ⟨h1, h2, h3, h4⟩ := hs
      obtain ⟨a, xs, rfl, hq, hda⟩ := hd.tup_inv
      obtain rfl := hda.nats_inv
      refine ifF (by show inV _ _ = false; rw [eR, h1]) ?_
      refine ⟨_, rfl, aN, _, rfl, .inr kN.sq, rfl, by decide +kernel, _, rfl, ?_⟩
      refine ifF (by show inV _ _ = false; rw [in_cnts, h2]) ?_
      refine ⟨_, rfl, rfl, _, rfl, ifF (by rw [is_value]; exact decide_eq_false h3) ?_⟩
      refine ⟨_, rfl, _, _, rfl, rfl, h4, _, rfl, ifF rfl ?_⟩
      have hz1 : (cb l.length).length + (l.flatMap cb).length ≤ 1000000 := by simpa only [encP, List.length_append] using hz
      refine ⟨_, rfl, _, _, rfl, .inr hq, l.length, by rw [nats_length]; rfl, by omega, fun H1 p1 s1 n1 h1 => ?_⟩
      refine ⟨_, rfl, a, rfl, ⟨_, s1.seqT hq⟩, for_tup (xs := nats l) (fun i σ H' => ∃ v3 : Option V, σ = [some (.str (nm s)), some (.ref a), some (.ref p1), v3] ∧ Same H H' ∧ H' p1 = some (.lst (nats (cb l.length ++ (l.take i).flatMap cb))))
        ⟨none, rfl, s1, by simpa using h1⟩ (fun i σ H' _ ⟨_, _, s5, _⟩ => s5.seqT hq) ?_ ?_⟩
      · rintro i y σ H2 hi ⟨v3, rfl, s2, h2⟩
        obtain ⟨n, hn, rfl⟩ := nats_get hi
        have hmem : n ∈ l := List.mem_of_getElem? hn
        have hle : (cb n).length ≤ (l.flatMap cb).length := by
          obtain ⟨u, u2, e⟩ := split_mem (e := cb) hmem
          rw [e]; simp; omega
        have hle2 : ((l.take i).flatMap cb).length + (cb n).length ≤ (l.flatMap cb).length := by
          have e : l.flatMap cb = (l.take i).flatMap cb ++ (cb n ++ (l.drop (i + 1)).flatMap cb) := by
            have hlt := (List.getElem?_eq_some_iff.mp hn).1
            have e0 : l = l.take i ++ (n :: l.drop (i + 1)) := by
              have := List.drop_eq_getElem_cons hlt
              rw [(List.getElem?_eq_some_iff.mp hn).2] at this
              rw [← this, List.take_append_drop]
            conv => lhs; rw [e0]
            rw [List.flatMap_append, List.flatMap_cons]
          rw [e]; simp
        refine ⟨_, rfl, .inl ⟨rfl, _, SqL.of h2⟩, _, rfl, n, rfl, by omega, fun H3 p3 s3 n3 h3 => ?_⟩
        have h23 : H3 p1 = some (.lst (nats (cb l.length ++ (l.take i).flatMap cb))) := s3 _ _ h2
        refine ⟨p1, p3, _, _, rfl, rfl, h23, h3, small (by rw [nats_length, nats_length, List.length_append]; omega), ?_⟩
        refine ⟨_, rfl, (s2.trans s3).updAt n1, ?_⟩
        rw [upd_same, ← nats_app, List.take_add_one, hn, List.flatMap_append, List.append_assoc]
        simp
      · rintro σ H2 ⟨v3, rfl, s2, h2⟩
        rw [nats_length, List.take_length] at h2
        exact ⟨_, rfl, k _ p1 s2 n1 h2⟩
end
end L2.KR

namespace L2.KR
open PySem PySem.Spec PyProof.Rows K53
/-! ### write_bytes -/
theorem wds_len : wds.length = 32 := rfl
theorem wd_here {j : Nat} (h : j < 32) : wds[j]? = some (wd j) := by
  unfold wd
  rw [List.getD_eq_getElem?_getD, List.getElem?_eq_getElem (by rw [wds_len]; exact h)]
  rfl
theorem wd_first : ∀ j, j < 32 → ∀ m, m < j → wds[m]? ≠ some (wd j) := by decide +kernel
theorem kn_here : ∀ k, k < 2 → kns[k]? = some (kn k) := by decide +kernel
theorem kn_first : ∀ k, k < 2 → ∀ m, m < k → kns[m]? ≠ some (kn k) := by decide +kernel
/-- t.index(x) -/
def rTI (K : PySem.W.Frag) : V → List V → Hp → VK → Prop := fun x xs H Q => ∃ p, ∃ ys : List Str, ∃ z j, x = .ref p ∧ xs = [.str z] ∧ SqT K H p (ys.map V.str) ∧ ys[j]? = some z ∧ (∀ m, m < j → ys[m]? ≠ some z) ∧ Q (.int (j : Nat)) H
theorem mt_ti {X : Cx} : MtR X "tuple.index" (rTI X.K) := mt_tup_index
def spWB (K : PySem.W.Frag) : Sp := fun vs H Q _ => ∃ (v : V) (c : K53.Code), vs = [v] ∧ TypC c ∧ Dp K H v (datC c) ∧ (enc c).length ≤ 1000000 ∧ Gives (enc c) H Q
abbrev sWB : Stmt := top 33
section
variable {P : Program} {w : World} {K : PySem.W.Frag} {mg : Str → Option Value} {base : Heap}
theorem scWB : FnScope ["code", "found", "row", "sorts", "index", "kind"] ["code"] (defScope sWB) := ⟨rfl, rfl, rfl, by decide +kernel, rfl, by decide +kernel, by decide +kernel⟩
theorem ok_wb {f : Addr} {fd : FuncData} (F : Fun K "write_bytes" "write_bytes" sWB f fd) (T : Txt w K mg) (cCB : C8.Cal P w K mg base 1 "count_bytes" spCB []) (cPB : C8.Cal P w K mg base 3 "part_bytes" (spPB K) []) : FnOk P w K mg base CX0 4 f fd ["code"] (spWB K) := by
  obtain ⟨aK, mK, kK⟩ := T.kinds
  obtain ⟨aW, mW, kW⟩ := T.words
  obtain ⟨aP, mP, hP⟩ := T.parts
  refine F.ok scWB (fun vs H Q E h => ?_) (fun cdv A outer s0 H vs Q E hr h => ?_)
  · obtain ⟨v, x, rfl, _⟩ := h
    rfl
  · obtain ⟨v, c, rfl, ht, hd, hz, k⟩ := h
    have hr1 : Room 1 _ := hr.mono (by decide)
    refine ⟨_, pss_cons (ps_set (i := 1) scWB.nd rfl (Or.inl rfl) (pe_op op_cat (pe_op op_cat
          (C8.pe_c cCB hr1 (by decide) (by rfl) (pa_cons (pe_callB call_len_seq (by rfl) T.len PySem.boot_len (pa_cons (pe_ix ix_tup (pv 0) pe_int (fun _ _ => rfl)) pa_nil)) pa_nil))
          (pe_lc (own := [("kind", 5)]) (g := gName 5) (tt := tYes) (te := tBM K "tuple" (rTI K) (tC (.ref aK)) (tCons (tVar 5) tNil)) rfl scWB.nd (pi_tup (pe_ix ix_tup (pv 0) pe_int (fun _ _ => rfl))) (blkOk_by (N := ["code", "found", "row", "sorts", "index", "kind"]) (sc := defScope sWB) (by decide +kernel))
            (fun _ _ _ _ _ => pg_name (i := 5) scWB.nd rfl (Or.inl rfl)) (fun _ _ _ _ _ => pts_nil) (fun _ _ _ _ _ => pe_bm PySem.F.plainAttrs_tuple PySem.F.slot_tuple_index PySem.F.type_tuple_index mt_ti (pe_gref (by rfl) mK) (pa_cons (pv 5) pa_nil))))
          (C8.pe_c cCB hr1 (by decide) (by rfl) (pa_cons (pe_callB call_len_seq (by rfl) T.len PySem.boot_len (pa_cons (pe_ix ix_tup (pv 0) pe_int (fun _ _ => rfl)) pa_nil)) pa_nil))))
      (pss_cons (ps_for PassesOwn.never rfl (pi_tup (pe_ix ix_tup (pv 0) pe_int (fun _ _ => rfl))) (pg_name (i := 2) scWB.nd rfl (Or.inl rfl))
        (pss_cons (ps_expr (pe_bm PySem.F.plainAttrs_list PySem.F.slot_list_append PySem.F.type_list_append mt_append (pv 1) (pa_cons (pe_bm PySem.F.plainAttrs_tuple PySem.F.slot_tuple_index PySem.F.type_tuple_index mt_tup_index (pe_gref (by rfl) mW) (pa_cons (pe_ix ix_tup (pv 2) pe_int (fun _ _ => rfl)) pa_nil)) pa_nil)))
        (pss_cons (ps_set (i := 3) scWB.nd rfl (Or.inl rfl) (pe_ix ix_kdict (pe_gref (by rfl) mP) (pe_ix ix_tup (pv 2) pe_int (fun _ _ => rfl)) (fun _ _ => rfl)))
        (pss_one (ps_for PassesOwn.never rfl (pi_range1 (by rfl) T.range (pa_cons (pe_callB call_len_seq (by rfl) T.len PySem.boot_len (pa_cons (pv 3) pa_nil)) pa_nil)) (pg_name (i := 4) scWB.nd rfl (Or.inl rfl))
          (pss_one (ps_expr (pe_bm PySem.F.plainAttrs_list PySem.F.slot_list_extend PySem.F.type_list_extend mt_extend (pv 1)
            (pa_cons (C8.pe_c cPB hr (by decide) (by rfl) (pa_cons (pe_ix ix_tup (pv 3) (pv 4) (fun _ _ => rfl)) (pa_cons (pe_ix ix_tup (pv 2) (pe_op op_add pe_int (pv 4)) (fun _ _ => rfl)) pa_nil))) pa_nil)))))))))
      (pss_one (ps_ret (pv 1)))), ?_⟩
    obtain ⟨a, xs, rfl, hq, hda⟩ := hd.tup_inv
    cases hda with
    | cons hk r1 =>
      cases r1 with
      | cons hrs r2 =>
        cases r2
        obtain ⟨ak, ks, rfl, hqk, hdk⟩ := hk.tup_inv
        obtain rfl := hdk.strs_inv
        obtain ⟨ar, rs, rfl, hqr, hdr⟩ := hrs.tup_inv
        have lrs : rs.length = c.2.length := by rw [hdr.length, List.length_map]
        have hz0 : (cb c.1.length).length + (c.1.length + ((cb c.2.length).length + (c.2.flatMap encR).length)) ≤ 1000000 := by simpa only [enc, List.length_append] using hz
        -- the head of the bytes
        refine ⟨_, rfl, a, _, 0, _, rfl, rfl, hq, rfl, _, _, rfl, .inr hqk, c.1.length, by rw [List.length_map]; rfl, by omega, fun H1 p1 s1 n1 h1 => ?_⟩
        refine ⟨_, rfl, a, _, 0, _, rfl, rfl, s1.seqT hq, rfl, _, rfl, ⟨_, s1.seqT hqk⟩, fun D nD => ?_⟩
        refine lc_it walk_tup (fun j H' => Same H1 H' ∧ H' D = some (.lst (nats (c.1.take j)))) ⟨Same.upd nD, upd_same⟩ (fun j H' _ hp => hp.1.seqT (s1.seqT hqk)) ?_ ?_
        · rintro j x2 H2 H2' hj ⟨s3, h3⟩ ⟨rfl, hx⟩
          rw [List.getElem?_map] at hx
          obtain ⟨kk, hkk, rfl⟩ : ∃ kk, c.1[j]? = some kk ∧ V.str (kn kk) = x2 := by
            cases e : c.1[j]? with
            | none => rw [e] at hx; cases hx
            | some kk => rw [e] at hx; exact ⟨kk, rfl, Option.some.inj hx⟩
          have hk2 : kk < 2 := ht.1 kk (List.mem_of_getElem? hkk)
          refine ⟨rfl, kK.ty, _, rfl, aK, kns, _, kk, rfl, rfl, kK.sq, kn_here kk hk2, kn_first kk hk2, _, h3, smallLt (by rw [nats_length, List.length_take]; omega), s3.updAt nD, ?_⟩
          rw [upd_same, List.take_add_one, hkk, nats_app]
          rfl
        · rintro H2 ⟨s3, h3⟩
          rw [List.length_map, List.take_length] at h3
          refine ⟨p1, D, _, _, rfl, rfl, s3 _ _ h1, h3, small (by rw [nats_length, nats_length]; omega), fun p2 n2 => ?_⟩
          have s4 : Same H H2 := s1.trans s3
          have n20 : H p2 = none := s4.free n2
          have s5 : Same H (upd H2 p2 (.lst (nats (cb c.1.length) ++ nats c.1))) := s4.updAt n20
          refine ⟨_, rfl, a, _, 1, _, rfl, rfl, s5.seqT hq, rfl, _, _, rfl, .inr (s5.seqT hqr), c.2.length, by rw [lrs]; rfl, by omega, fun H3 p3 s6 n3 h6 => ?_⟩
          have s7 : Same H H3 := s5.trans s6
          refine ⟨p2, p3, _, _, rfl, rfl, s6 _ _ upd_same, h6, small (by simp only [List.length_append, nats_length]; omega), fun p np => ?_⟩
          have np0 : H p = none := s7.free np
          have s8 := s7.updAt (o := .lst (nats (cb c.1.length) ++ nats c.1 ++ nats (cb c.2.length))) np0
          -- the rows
          refine ⟨_, rfl, a, _, 1, _, rfl, rfl, s8.seqT hq, rfl, _, rfl, ⟨_, s8.seqT hqr⟩, ?_⟩
          refine for_tup (xs := rs) (fun i σ H' => ∃ v2 v3 v4 : Option V, σ = [some (.ref a), some (.ref p), v2, v3, v4, none] ∧ Same H H' ∧ H' p = some (.lst (nats (cb c.1.length ++ (c.1 ++ (cb c.2.length ++ (c.2.take i).flatMap encR))))))
            ⟨none, none, none, rfl, s8, by rw [upd_same]; simp [nats_app]⟩ (fun i σ H' _ ⟨_, _, _, _, s9, _⟩ => s9.seqT hqr) ?_ ?_
          · rintro i y σ H4 hi ⟨v2, v3, v4, rfl, s9, h9⟩
            obtain ⟨d, hd1, hd2⟩ := hdr.get hi
            rw [List.getElem?_map] at hd1
            obtain ⟨row, hrow, rfl⟩ : ∃ row, c.2[i]? = some row ∧ datR row = d := by
              cases e : c.2[i]? with
              | none => rw [e] at hd1; cases hd1
              | some row => rw [e] at hd1; exact ⟨row, rfl, Option.some.inj hd1⟩
            obtain ⟨hj32, hps, htp⟩ := ht.2 row (List.mem_of_getElem? hrow)
            obtain ⟨j, ps⟩ := row
            have hle := congrArg List.length (K53.flat_at (e := encR) hrow)
            simp only [List.length_append, encR, List.length_cons] at hle
            obtain ⟨ay, ys, rfl, hqy, hdy⟩ := hd2.tup_inv
            cases hdy with
            | cons hw hpd =>
              rename_i yv yr
              obtain rfl := hw.str_inv
              obtain ⟨t, kt1, kt2⟩ := hP j hj32
              refine ⟨_, rfl, .inl ⟨rfl, _, SqL.of h9⟩, kW.ty, _, rfl, ay, _, 0, _, rfl, rfl, s9.seqT hqy, at_of (j := 0) rfl rfl, aW, wds, _, j, rfl, rfl, kW.sq, wd_here hj32, wd_first j hj32, p, _, _, rfl, rfl, h9, smallLt (by simp only [List.length_append, nats_length]; omega), ?_⟩
              have s10 := s9.updAt (o := .lst (nats (cb c.1.length ++ (c.1 ++ (cb c.2.length ++ (c.2.take i).flatMap encR))) ++ [V.int (j : Int)])) np0
              refine ⟨_, rfl, ay, _, 0, _, rfl, rfl, s10.seqT hqy, at_of (j := 0) rfl rfl, aP, wd j, .ref t, rfl, rfl, kt1, ?_⟩
              refine ⟨_, rfl, t, _, rfl, .inr kt2.sq, (srt j).length, by rw [List.length_map], by have := srt_le j; omega, by have := srt_le j; omega, ?_⟩
              refine for_range (n := (srt j).length) (fun q σ H' => ∃ v4 : Option V, σ = [some (.ref a), some (.ref p), some (.ref ay), some (.ref t), v4, none] ∧ Same H H' ∧ H' p = some (.lst (nats (cb c.1.length ++ (c.1 ++ (cb c.2.length ++ ((c.2.take i).flatMap encR ++ (j :: (ps.take q).flatMap encP))))))))
                ⟨v4, rfl, s10, by rw [upd_same]; simp [nats_app, nats_app', show nats [] = [] from rfl]⟩ ?_ ?_
              · rintro q σ H5 hq4 ⟨v4', rfl, s11, h11⟩
                have hps' : ps.length = (srt j).length := hps
                have hqlt : q < ps.length := by omega
                have hpq : ps[q]? = some ps[q] := by simp [hqlt]
                obtain ⟨sv, hsv, hsd⟩ := hpd.getD (i := q) (d := datP ps[q]) (by rw [List.getElem?_map, hpq]; rfl)
                have hsrt : (srt j)[q]? = some ((srt j).getD q .d) := by
                  rw [List.getD_eq_getElem?_getD, List.getElem?_eq_getElem (by omega)]
                  rfl
                have hlp := congrArg List.length (K53.flat_at (e := encP) hpq)
                simp only [List.length_append] at hlp
                refine ⟨_, rfl, .inl ⟨rfl, _, SqL.of h11⟩, _, rfl, _, rfl, t, _, _, .str (nm ((srt j).getD q .d)), rfl, rfl, kt2.sq, at_of (j := q) (by omega) (by rw [List.getElem?_map, hsrt]; rfl), _, rfl, _, rfl, _, _, rfl, rfl, ay, _, _, sv, rfl, rfl, s11.seqT hqy, at_of (j := q + 1) (by omega) (by simpa using hsv), _, sv, _, rfl, htp q _ hpq, hsd.mono s11, by omega, fun H6 p6 s12 n6 h12 => ?_⟩
                refine ⟨p, p6, _, _, rfl, rfl, s12 _ _ h11, h12, small (by simp only [List.length_append, nats_length, List.length_cons]; omega), ?_⟩
                refine ⟨_, rfl, (s11.trans s12).updAt np0, ?_⟩
                rw [upd_same, ← nats_app, flat_take hpq]
                simp only [List.append_assoc, List.cons_append]
              · rintro σ H5 ⟨v4', rfl, s11, h11⟩
                have hps' : ps.length = (srt j).length := hps
                refine ⟨_, _, _, rfl, s11, ?_⟩
                rw [h11, ← hps', List.take_length, flat_take hrow]
                rfl
          · rintro σ H4 ⟨v2, v3, v4, rfl, s9, h9⟩
            rw [lrs, List.take_length] at h9
            exact ⟨_, rfl, k _ p s9 np0 h9⟩
end
end L2.KR

namespace L2.KR
open PySem PySem.Spec PyProof.Rows K53
/-! ### isinstance of flat things and tuples -/
theorem kit_ii : kitB "int" "int" = some true := by decide +kernel
theorem kit_ib : kitB "int" "bool" = some false := by decide +kernel
theorem kit_ss : kitB "str" "str" = some true := by decide +kernel
theorem kit_tt : kitB "tuple" "tuple" = some true := by decide +kernel
theorem kit_ll : kitB "list" "list" = some true := by decide +kernel
theorem rd_isi {K : PySem.W.Frag} {H : Hp} {x : V} {T n : String} {b : Bool} {Q : VK} (hx : TyX K H x (.type T)) (hk : kitB T n = some b) (q : Q (.bl b) H) : rIsi K [x, .ty n] H Q := ⟨x, .ty n, _, _, b, rfl, .ty n, hx, kit_ty hk, q⟩
theorem tyx_sqT {K : PySem.W.Frag} {H : Hp} {a : Addr} {xs : List V} (h : SqT K H a xs) : TyX K H (.ref a) (.type "tuple") := by
  rcases h with (h | ⟨o, h⟩) | ⟨o, its, n, h1, h2, _⟩
  · exact .base (.tup h)
  · exact .fTuple h
  · exact .kTuple h1 h2
theorem tyx_int {K : PySem.W.Frag} {H : Hp} {i : Int} : TyX K H (.int i) (.type "int") := .base (.int i)
theorem tyx_str {K : PySem.W.Frag} {H : Hp} {x : Str} : TyX K H (.str x) (.type "str") := .base (.str x)
/-! ### is_count -/
def spIC : Sp := fun vs H Q _ => (∃ n : Int, vs = [.int n, .non] ∧ Q (.bl (decide (0 ≤ n))) H) ∨ ∃ n m : Int, vs = [.int n, .int m] ∧ Q (.bl (decide (0 ≤ n) && decide (n ≤ m))) H
abbrev sIC : Stmt := top 11
section
variable {P : Program} {w : World} {K : PySem.W.Frag} {mg : Str → Option Value} {base : Heap}
theorem scIC : FnScope ["thing", "most"] ["thing", "most"] (defScope sIC) := ⟨rfl, rfl, rfl, by decide +kernel, rfl, by decide +kernel, by decide +kernel⟩
theorem ok_ic {f : Addr} {fd : FuncData} (F : Fun K "is_count" "is_count" sIC f fd) (T : Txt w K mg) : FnOk P w K mg base CX0 1 f fd ["thing", "most"] spIC := by
  refine F.ok scIC (fun vs H Q E h => ?_) (fun cdv A outer s0 H vs Q E hr h => ?_)
  · rcases h with ⟨n, rfl, _⟩ | ⟨n, m, rfl, _⟩ <;> rfl
  · refine ⟨_, pss_one (ps_ret (pe_and (pe_callB call_isi (by rfl) T.isi boot_isinstance (pa_cons (pv 0) (pa_cons (pe_bltn (v := .ty "int") (by rfl) T.int boot_int rfl) pa_nil)))
      (pe_and (pe_not (pe_callB call_isi (by rfl) T.isi boot_isinstance (pa_cons (pv 0) (pa_cons (pe_bltn (v := .ty "bool") (by rfl) T.bool boot_bool rfl) pa_nil))))
      (pe_and (pe_cmpR op_le pe_int (pv 0) (nomark _))
      (pe_one (pe_or (pe_cmpR op_isN (pv 1) pe_non (nomark _)) (pe_one (pe_cmpR op_le (pv 0) (pv 1) (nomark _))))))))), ?_⟩
    rcases h with ⟨n, rfl, k⟩ | ⟨n, m, rfl, k⟩
    · refine ⟨_, rfl, _, _, _, _, _, rfl, .ty _, tyx_int, kit_ty kit_ii, ⟨true, rfl, ?_⟩⟩
      refine ⟨_, rfl, _, _, _, _, _, rfl, .ty _, tyx_int, kit_ty kit_ib, ⟨false, rfl, ⟨true, rfl, ?_⟩⟩⟩
      refine ⟨_, rfl, _, _, rfl, rfl, _, rfl, ?_⟩
      cases e : decide ((0 : Int) ≤ n) with
      | false => rw [e] at k; exact k
      | true =>
        rw [e] at k
        exact ⟨_, rfl, rfl, true, rfl, k⟩
    · refine ⟨_, rfl, _, _, _, _, _, rfl, .ty _, tyx_int, kit_ty kit_ii, ⟨true, rfl, ?_⟩⟩
      refine ⟨_, rfl, _, _, _, _, _, rfl, .ty _, tyx_int, kit_ty kit_ib, ⟨false, rfl, ⟨true, rfl, ?_⟩⟩⟩
      refine ⟨_, rfl, _, _, rfl, rfl, _, rfl, ?_⟩
      cases e : decide ((0 : Int) ≤ n) with
      | false => rw [e] at k; exact k
      | true =>
        rw [e] at k
        exact ⟨_, rfl, rfl, false, rfl, _, rfl, _, rfl, _, _, rfl, rfl, k⟩
end
/-! ### is_text -/
def spIT : Sp := fun vs H Q _ => ∃ t : List Nat, vs = [.str (SX.S t)] ∧ (∀ c ∈ t, okChar c = true) ∧ t.length ≤ 1000000 ∧ ∀ H', Same H H' → Q (.bl (decide (t.length ≤ 32))) H'
abbrev sIT : Stmt := top 12
theorem lt_one (a b : Nat) : decide (([a] : List Nat) < [b]) = decide (a < b) := by
  by_cases h : a < b
  · rw [decide_eq_true h]; exact decide_eq_true (List.Lex.rel h)
  · rw [decide_eq_false h]
    refine decide_eq_false fun q => ?_
    cases q with
    | rel h2 => exact h h2
    | cons h2 => cases h2
theorem okChar_no {c : Nat} (h : okChar c = true) : inV (.int (c : Int)) [.int 34, .int 37, .int 92] = false := by
  unfold okChar at h
  simp only [Bool.and_eq_true, decide_eq_true_eq, bne_iff_ne] at h
  obtain ⟨⟨h1, h2⟩, ⟨h3, h4⟩, h5⟩ := h
  simp only [inV, List.any_cons, List.any_nil, eqV, Bool.or_false, Bool.or_eq_false_iff, beq_eq_false_iff_ne]
  omega
section
variable {P : Program} {w : World} {K : PySem.W.Frag} {mg : Str → Option Value} {base : Heap}
theorem scIT : FnScope ["thing", "char"] ["thing"] (defScope sIT) := ⟨rfl, rfl, rfl, by decide +kernel, rfl, by decide +kernel, by decide +kernel⟩
theorem ok_it {f : Addr} {fd : FuncData} (F : Fun K "is_text" "is_text" sIT f fd) (T : Txt w K mg) : FnOk P w K mg base CX0 1 f fd ["thing"] spIT := by
  refine F.ok scIT (fun vs H Q E h => ?_) (fun cdv A outer s0 H vs Q E hr h => ?_)
  · obtain ⟨t, rfl, _⟩ := h
    rfl
  · obtain ⟨t, rfl, hc, hz, k⟩ := h
    refine ⟨_, pss_cons (ps_if (PW.pt (pw_or (pt_not (pt_val (pe_callB call_isi (by rfl) T.isi boot_isinstance (pa_cons (pv 0) (pa_cons (pe_bltn (v := .ty "str") (by rfl) T.str boot_str rfl) pa_nil))))) (pw_or1 (pt_cmpR op_gt (pe_callB call_len_str (by rfl) T.len PySem.boot_len (pa_cons (pv 0) pa_nil)) (C8.pe_gc (by rfl) T.longest) (nomark _))))) (pss_one (ps_ret pe_bl)) pss_nil)
      (pss_cons (ps_for PassesOwn.never rfl (pi_str (pv 0)) (pg_name (i := 1) scIT.nd rfl (Or.inl rfl))
        (pss_one (ps_if (PW.pt (pw_or (pt_cmpR op_lt_str (pv 1) pe_str (nomark _)) (pw_or (pt_cmpR op_gt_str (pv 1) pe_str (nomark _)) (pw_or1 (pt_cmpR op_in_seq (pe_callB call_ord (by rfl) T.ord boot_ord (pa_cons (pv 1) pa_nil)) (pe_tup (pa_cons pe_int (pa_cons pe_int (pa_cons pe_int pa_nil)))) (by rfl)))))) (pss_one (ps_ret pe_bl)) pss_nil)))
      (pss_one (ps_ret pe_bl))), ?_⟩
    have hl : (SX.S t).length = t.length := SX.S_len t
    refine ⟨_, rfl, _, _, _, _, _, rfl, .ty _, tyx_str, kit_ty kit_ss, ⟨true, rfl, ?_⟩⟩
    refine ⟨_, rfl, _, rfl, by rw [hl]; exact small hz, _, _, rfl, rfl, _, rfl, ?_⟩
    by_cases h32 : t.length ≤ 32
    · rw [decide_eq_true h32] at k
      refine ifF (decide_eq_false (by rw [hl]; omega)) ?_
      refine ⟨_, rfl, _, rfl, for_it walk_str (fun i σ H' => ∃ v1 : Option V, σ = [some (.str (SX.S t)), v1] ∧ Same H H') ⟨none, rfl, Same.refl _⟩ (fun _ _ _ _ _ => True.intro) ?_ ?_⟩
      · rintro i x σ H1 H1' hi ⟨v1, rfl, s1⟩ ⟨rfl, c, hcc, rfl⟩
        have hc' : t[i]? = some c := by
          have : (SX.S t).cps[i]? = some c := hcc
          simpa [SX.S] using this
        have ho := hc c (List.mem_of_getElem? hc')
        have ho' := ho
        unfold okChar at ho'
        simp only [Bool.and_eq_true, decide_eq_true_eq] at ho'
        refine ⟨_, rfl, _, _, rfl, rfl, _, rfl, ifF (by show decide (([c] : List Nat) < [32]) = false; rw [lt_one]; exact decide_eq_false (by omega)) ?_⟩
        refine ⟨_, rfl, _, _, rfl, rfl, _, rfl, ifF (by show decide (([126] : List Nat) < [c]) = false; rw [lt_one]; exact decide_eq_false (by omega)) ?_⟩
        refine ⟨_, rfl, _, rfl, rfl, by show 3 ≤ sizeLine; decide, fun p np => ?_⟩
        refine ⟨p, _, rfl, .inr (SqT.of upd_same), rfl, rfl, _, rfl, ifF (okChar_no ho) ?_⟩
        exact ⟨_, rfl, s1.trans (Same.upd np)⟩
      · rintro σ H1 ⟨v1, rfl, s1⟩
        exact k _ s1
    · rw [decide_eq_false h32] at k
      exact ifT (decide_eq_true (by rw [hl]; omega)) (k _ (Same.refl _))
end
end L2.KR

namespace L2.KR
open PySem PySem.Spec PyProof.Rows K53
/-! ### is_value -/
def spIV (K : PySem.W.Frag) : Sp := fun vs H Q _ => ∃ (v : V) (x : Prt), vs = [v] ∧ ((∃ i, x = .val i) ∨ ∃ s, x = .txt s) ∧ typP .value x ∧ Dp K H v (datP x) ∧ (encP x).length ≤ 1000000 ∧ ∀ H', Same H H' → Q (.bl (okP .value x)) H'
abbrev sIV : Stmt := top 13
section
variable {P : Program} {w : World} {K : PySem.W.Frag} {mg : Str → Option Value} {base : Heap}
theorem scIV : FnScope ["thing"] ["thing"] (defScope sIV) := ⟨rfl, rfl, rfl, by decide +kernel, rfl, by decide +kernel, by decide +kernel⟩
theorem inv_int : inV (.str "int") [.str "int", .str "str"] = true := by decide +kernel
theorem inv_str : inV (.str "str") [.str "int", .str "str"] = true := by decide +kernel
theorem ok_iv {f : Addr} {fd : FuncData} (F : Fun K "is_value" "is_value" sIV f fd) (T : Txt w K mg) (cIT : C8.Cal P w K mg base 1 "is_text" spIT []) : FnOk P w K mg base CX0 2 f fd ["thing"] (spIV K) := by
  refine F.ok scIV (fun vs H Q E h => ?_) (fun cdv A outer s0 H vs Q E hr h => ?_)
  · obtain ⟨v, x, rfl, _⟩ := h
    rfl
  · obtain ⟨v, x, rfl, hx, ht, hd, hz, k⟩ := h
    refine ⟨_, pss_cons (ps_if (PW.pt (pw_or (pt_not (pt_val (pe_callB call_isi (by rfl) T.isi boot_isinstance (pa_cons (pv 0) (pa_cons (pe_bltn (v := .ty "tuple") (by rfl) T.tup boot_tuple rfl) pa_nil))))) (pw_or (pt_cmpR op_ne (pe_callB call_len_seq (by rfl) T.len PySem.boot_len (pa_cons (pv 0) pa_nil)) pe_int (nomark _)) (pw_or1 (pt_cmpR op_notIn_seq (pe_ix ix_tup (pv 0) pe_int (fun _ _ => rfl)) (pe_tup (pa_cons pe_str (pa_cons pe_str pa_nil))) (by rfl)))))) (pss_one (ps_ret pe_bl)) pss_nil)
      (pss_cons (ps_if (pt_cmpR op_eq (pe_ix ix_tup (pv 0) pe_int (fun _ _ => rfl)) pe_str (nomark _)) (pss_one (ps_ret (C8.pe_c cIT hr (by decide) (by rfl) (pa_cons (pe_ix ix_tup (pv 0) pe_int (fun _ _ => rfl)) pa_nil)))) pss_nil)
      (pss_one (ps_ret (pe_and (pe_callB call_isi (by rfl) T.isi boot_isinstance (pa_cons (pe_ix ix_tup (pv 0) pe_int (fun _ _ => rfl)) (pa_cons (pe_bltn (v := .ty "int") (by rfl) T.int boot_int rfl) pa_nil))) (pe_and (pe_not (pe_callB call_isi (by rfl) T.isi boot_isinstance (pa_cons (pe_ix ix_tup (pv 0) pe_int (fun _ _ => rfl)) (pa_cons (pe_bltn (v := .ty "bool") (by rfl) T.bool boot_bool rfl) pa_nil))))
        (pe_one (pe_chain op_le op_lt (pe_un un_neg (C8.pe_gc (by rfl) T.half)) (pe_ix ix_tup (pv 0) pe_int (fun _ _ => rfl)) (C8.pe_gc (by rfl) T.half)))))))), ?_⟩
    rcases hx with ⟨i, rfl⟩ | ⟨t, rfl⟩
    · obtain ⟨a, xs, rfl, hq, hda⟩ := hd.tup_inv
      cases hda with
      | cons h1 r1 =>
        cases r1 with
        | cons h2 r2 =>
          cases r2
          obtain rfl := h1.str_inv
          obtain rfl := h2.int_inv
          refine ⟨_, rfl, _, _, _, _, _, rfl, .ty _, tyx_sqT hq, kit_ty kit_tt, ⟨true, rfl, ?_⟩⟩
          refine ⟨_, rfl, a, _, rfl, .inr hq, rfl, false, rfl, ?_⟩
          refine ⟨_, rfl, a, _, 0, _, rfl, rfl, hq, rfl, by show 2 ≤ sizeLine; decide, fun p np => ?_⟩
          have s1 : Same H (upd H p (.tup [.str "int", .str "str"])) := Same.upd np
          refine ⟨p, _, rfl, .inr (SqT.of upd_same), rfl, rfl, false, by rw [if_pos rfl, inv_int]; rfl, ?_⟩
          refine ⟨_, rfl, a, _, 0, _, rfl, rfl, s1.seqT hq, rfl, rfl, _, rfl, ifF (decide_eq_false (by intro e; exact absurd (V.str.inj e) (by decide +kernel))) ?_⟩
          refine ⟨_, rfl, a, _, 1, _, rfl, rfl, s1.seqT hq, rfl, _, _, _, _, _, rfl, .ty _, tyx_int, kit_ty kit_ii, ⟨true, rfl, ?_⟩⟩
          refine ⟨_, rfl, a, _, 1, _, rfl, rfl, s1.seqT hq, rfl, _, _, _, _, _, rfl, .ty _, tyx_int, kit_ty kit_ib, ⟨false, rfl, ⟨true, rfl, ?_⟩⟩⟩
          have e63 : (2 : Int) ^ 63 = 9223372036854775808 := by decide
          obtain ⟨g1, g2⟩ := (show -2 ^ 63 ≤ i ∧ i < 2 ^ 63 from ht)
          rw [e63] at g1 g2
          refine ⟨_, rfl, _, rfl, a, _, 1, _, rfl, rfl, s1.seqT hq, rfl, _, _, rfl, rfl, true, (by show V.bl (decide ((-9223372036854775808:Int) ≤ i)) = V.bl true; rw [decide_eq_true (by omega)]), ?_⟩
          refine ⟨_, _, rfl, rfl, ?_⟩
          show Q (.bl (decide (i < 9223372036854775808))) _
          rw [decide_eq_true (show i < 9223372036854775808 by omega)]
          exact k _ s1
    · obtain ⟨a, xs, rfl, hq, hda⟩ := hd.tup_inv
      cases hda with
      | cons h1 r1 =>
        cases r1 with
        | cons h2 r2 =>
          cases r2
          obtain rfl := h1.str_inv
          obtain rfl := h2.str_inv
          have hl : t.length ≤ 1000000 := by
            simp only [encP, List.length_cons, List.length_append] at hz
            omega
          refine ⟨_, rfl, _, _, _, _, _, rfl, .ty _, tyx_sqT hq, kit_ty kit_tt, ⟨true, rfl, ?_⟩⟩
          refine ⟨_, rfl, a, _, rfl, .inr hq, rfl, false, rfl, ?_⟩
          refine ⟨_, rfl, a, _, 0, _, rfl, rfl, hq, rfl, by show 2 ≤ sizeLine; decide, fun p np => ?_⟩
          have s1 : Same H (upd H p (.tup [.str "int", .str "str"])) := Same.upd np
          refine ⟨p, _, rfl, .inr (SqT.of upd_same), rfl, rfl, false, by rw [if_pos rfl, inv_str]; rfl, ?_⟩
          refine ⟨_, rfl, a, _, 0, _, rfl, rfl, s1.seqT hq, rfl, rfl, _, rfl, ifT (decide_eq_true rfl) ?_⟩
          refine ⟨_, rfl, a, _, 1, _, rfl, rfl, s1.seqT hq, rfl, t, rfl, ht, hl, fun H1 s2 => ?_⟩
          exact k _ (s1.trans s2)
end
/-! ### are_places, no bounds -/
def spAP (K : PySem.W.Frag) : Sp := fun vs H Q _ => ∃ (v : V) (l : List Nat), vs = [v, .non, .non] ∧ Dp K H v (datP (.pls l)) ∧ l.length ≤ 1000000 ∧ ∀ H', Same H H' → Q (.bl true) H'
abbrev sAP : Stmt := top 14
section
variable {P : Program} {w : World} {K : PySem.W.Frag} {mg : Str → Option Value} {base : Heap}
theorem scAP : FnScope ["thing", "many", "most", "one"] ["thing", "many", "most"] (defScope sAP) := ⟨rfl, rfl, rfl, by decide +kernel, rfl, by decide +kernel, by decide +kernel⟩
theorem ok_ap {f : Addr} {fd : FuncData} (F : Fun K "are_places" "are_places" sAP f fd) (T : Txt w K mg) (cIC : C8.Cal P w K mg base 1 "is_count" spIC []) : FnOk P w K mg base CX0 2 f fd ["thing", "many", "most"] (spAP K) := by
  refine F.ok scAP (fun vs H Q E h => ?_) (fun cdv A outer s0 H vs Q E hr h => ?_)
  · obtain ⟨v, x, rfl, _⟩ := h
    rfl
  · obtain ⟨v, l, rfl, hd, hz, k⟩ := h
    refine ⟨_, pss_cons (ps_if (PW.pt (pw_or (pt_not (pt_val (pe_callB call_isi (by rfl) T.isi boot_isinstance (pa_cons (pv 0) (pa_cons (pe_bltn (v := .ty "tuple") (by rfl) T.tup boot_tuple rfl) pa_nil))))) (pw_or1 (PW.pt (pw_and (pt_cmpR op_notN (pv 1) pe_non (nomark _)) (pw_and1 (pt_cmpR op_gt (pe_callB call_len_seq (by rfl) T.len PySem.boot_len (pa_cons (pv 0) pa_nil)) (pv 1) (nomark _)))))))) (pss_one (ps_ret pe_bl)) pss_nil)
      (pss_one (ps_ret (pe_callB (cr_all rfl) (by rfl) T.all boot_all (pa_cons
        (pe_lc (own := [("one", 3)]) (g := gName 3) (tt := tYes) rfl scAP.nd (pi_tup (pv 0)) (blkOk_by (N := ["thing", "many", "most", "one"]) (sc := defScope sAP) (by decide +kernel))
          (fun _ _ _ _ _ => pg_name (i := 3) scAP.nd rfl (Or.inl rfl)) (fun _ _ _ _ _ => pts_nil) (fun _ _ _ _ _ => C8.pe_c cIC hr (by decide) (by rfl) (pa_cons (pv 3) (pa_cons (pv 2) pa_nil)))) pa_nil)))), ?_⟩
    obtain ⟨a, xs, rfl, hq, hda⟩ := hd.tup_inv
    obtain rfl := hda.nats_inv
    refine ⟨_, rfl, _, _, _, _, _, rfl, .ty _, tyx_sqT hq, kit_ty kit_tt, ⟨true, rfl, ?_⟩⟩
    refine ⟨_, rfl, rfl, false, rfl, ?_⟩
    refine ⟨_, rfl, a, rfl, ⟨_, hq⟩, fun D nD => ?_⟩
    refine lc_it walk_tup (fun j H' => Same H H' ∧ H' D = some (.lst (List.replicate j (V.bl true)))) ⟨Same.upd nD, upd_same⟩ (fun j H' _ hp => hp.1.seqT hq) ?_ ?_
    · rintro j x H2 H2' hj ⟨s3, h3⟩ ⟨rfl, hx⟩
      obtain ⟨n, hn, rfl⟩ := nats_get hx
      rw [nats_length] at hj
      refine ⟨rfl, _, rfl, _, rfl, .inl ⟨(n : Int), rfl, _, h3, smallLt (by rw [List.length_replicate]; omega), s3.updAt nD, ?_⟩⟩
      rw [upd_same, decide_eq_true (Int.natCast_nonneg n)]
      exact congrArg (fun z => some (HO.lst z)) List.replicate_succ'.symm
    · rintro H2 ⟨s3, h3⟩
      refine ⟨D, List.replicate (nats l).length true, rfl, ?_, ?_⟩
      · rw [List.map_replicate]
        exact SqL.of h3
      · have e : (List.replicate (nats l).length true).all id = true := by simp
        rw [e]
        exact k _ s3
end
/-! ### is_word -/
def spIW (K : PySem.W.Frag) : Sp := fun vs H Q _ => ∃ (z : Str) (a : Addr) (l : List Str), vs = [.str z, .ref a] ∧ SqT K H a (l.map V.str) ∧ z ∈ l ∧ Q (.bl true) H
abbrev sIW : Stmt := top 15
theorem inv_mem {z : Str} : ∀ {l : List Str}, z ∈ l → inV (.str z) (l.map V.str) = true
  | y :: l, h => by
    show (eqV (.str y) (.str z) || inV (.str z) (l.map V.str)) = true
    rcases List.mem_cons.mp h with rfl | h
    · show ((z == z) || _) = true
      rw [beq_self_eq_true]
      rfl
    · rw [inv_mem h, Bool.or_true]
theorem flat_strs' (l : List Str) : (l.map V.str).all flatV = true := by
  rw [List.all_map]
  exact List.all_eq_true.mpr fun _ _ => rfl
section
variable {P : Program} {w : World} {K : PySem.W.Frag} {mg : Str → Option Value} {base : Heap}
theorem scIW : FnScope ["thing", "words"] ["thing", "words"] (defScope sIW) := ⟨rfl, rfl, rfl, by decide +kernel, rfl, by decide +kernel, by decide +kernel⟩
theorem ok_iw {f : Addr} {fd : FuncData} (F : Fun K "is_word" "is_word" sIW f fd) (T : Txt w K mg) : FnOk P w K mg base CX0 1 f fd ["thing", "words"] (spIW K) := by
  refine F.ok scIW (fun vs H Q E h => ?_) (fun cdv A outer s0 H vs Q E hr h => ?_)
  · obtain ⟨v, x, l, rfl, _⟩ := h
    rfl
  · obtain ⟨z, a, l, rfl, hq, hm, k⟩ := h
    refine ⟨_, pss_one (ps_ret (pe_and (pe_callB call_isi (by rfl) T.isi boot_isinstance (pa_cons (pv 0) (pa_cons (pe_bltn (v := .ty "str") (by rfl) T.str boot_str rfl) pa_nil))) (pe_one (pe_cmpR op_in_seq (pv 0) (pv 1) (by rfl))))), ?_⟩
    refine ⟨_, rfl, _, _, _, _, _, rfl, .ty _, tyx_str, kit_ty kit_ss, ⟨true, rfl, ?_⟩⟩
    refine ⟨_, rfl, _, rfl, a, _, rfl, .inr hq, rfl, flat_strs' l, ?_⟩
    show Q (.bl (inV (.str z) (l.map V.str))) H
    rw [inv_mem hm]
    exact k
end
end L2.KR

namespace L2.KR
open PySem PySem.Spec PyProof.Rows K53
/-! ### is_part, most None -/
theorem units1 {k : Nat} {A : Around} (r : Room k A) : A.units + 1 < cLine := by have := r.units; omega
theorem units64 {k : Nat} {A : Around} (r : Room k A) : A.units + 64 < cLine := r.units
theorem flat_le1 {α : Type} {e : α → List Nat} (h : ∀ x, 1 ≤ (e x).length) : ∀ l : List α, l.length ≤ (l.flatMap e).length
  | [] => Nat.zero_le _
  | x :: l => by
    have q := flat_le1 h l
    have q2 := h x
    rw [List.flatMap_cons, List.length_append, List.length_cons]
    omega
theorem nmT {s : Srt} {x : Str} (h : nm s = x) : decide (V.str (nm s) = V.str x) = true := decide_eq_true (congrArg V.str h)
theorem nmF {s : Srt} {x : Str} (h : nm s ≠ x) : decide (V.str (nm s) = V.str x) = false := decide_eq_false fun e => h (V.str.inj e)
def spIP (K : PySem.W.Frag) : Sp := fun vs H Q _ => ∃ (s : Srt) (v : V) (x : Prt), vs = [.str (nm s), v, .non] ∧ typP s x ∧ Dp K H v (datP x) ∧ (encP x).length ≤ 1000000 ∧ ∀ H', Same H H' → Q (.bl (okP s x)) H'
abbrev sIP : Stmt := top 16
section
variable {P : Program} {w : World} {K : PySem.W.Frag} {mg : Str → Option Value} {base : Heap}
theorem scIP : FnScope ["sort", "thing", "most", "words"] ["sort", "thing", "most"] (defScope sIP) := ⟨rfl, rfl, rfl, by decide +kernel, rfl, by decide +kernel, by decide +kernel⟩
theorem ok_ip {f : Addr} {fd : FuncData} (F : Fun K "is_part" "is_part" sIP f fd) (T : Txt w K mg) (cIC : C8.Cal P w K mg base 1 "is_count" spIC []) (cIV : C8.Cal P w K mg base 2 "is_value" (spIV K) []) (cAP : C8.Cal P w K mg base 2 "are_places" (spAP K) []) (cIW : C8.Cal P w K mg base 1 "is_word" (spIW K) []) : FnOk P w K mg base CX0 3 f fd ["sort", "thing", "most"] (spIP K) := by
  obtain ⟨aV, mV, kV'⟩ := T.views
  obtain ⟨aG, mG, kG⟩ := T.signs
  obtain ⟨aO, mO, kO⟩ := T.comps
  obtain ⟨aT, mT, kT⟩ := T.sorts
  refine F.ok scIP (fun vs H Q E h => ?_) (fun cdv A outer s0 H vs Q E hr h => ?_)
  · obtain ⟨s, v, x, rfl, _⟩ := h
    rfl
  · obtain ⟨s, v, x, rfl, ht, hd, hz, k⟩ := h
    have hr1 : Room 1 _ := hr.mono (by decide)
    have hr2 : Room 2 _ := hr.mono (by decide)
    refine ⟨_, pss_cons (ps_if (PW.pt (pw_or (pt_cmpR op_eq (pv 0) pe_str (nomark _)) (pw_or1 (pt_cmpR op_eq (pv 0) pe_str (nomark _))))) (pss_one (ps_ret (C8.pe_c cIC hr1 (by decide) (by rfl) (pa_cons (pv 1) (pa_cons (pe_op op_sub (C8.pe_gc (by rfl) T.regs) pe_int) pa_nil))))) pss_nil)
      (pss_cons (ps_if (pt_cmpR op_eq (pv 0) pe_str (nomark _)) (pss_one (ps_ret (pe_or (C8.pe_c cIC hr1 (by decide) (by rfl) (pa_cons (pv 1) (pa_cons (pe_op op_sub (C8.pe_gc (by rfl) T.regs) pe_int) pa_nil))) (pe_one (pe_and (pe_callB call_isi (by rfl) T.isi boot_isinstance (pa_cons (pv 1) (pa_cons (pe_bltn (v := .ty "int") (by rfl) T.int boot_int rfl) pa_nil))) (pe_one (pe_cmpR op_eq (pv 1) (pe_un un_neg pe_int) (nomark _)))))))) pss_nil)
      (pss_cons (ps_if (pt_cmpR op_eq (pv 0) pe_str (nomark _)) (pss_one (ps_ret (C8.pe_c cIC hr1 (by decide) (by rfl) (pa_cons (pv 1) (pa_cons pe_int pa_nil))))) pss_nil)
      (pss_cons (ps_if (PW.pt (pw_or (pt_cmpR op_eq (pv 0) pe_str (nomark _)) (pw_or (pt_cmpR op_eq (pv 0) pe_str (nomark _)) (pw_or1 (pt_cmpR op_eq (pv 0) pe_str (nomark _)))))) (pss_one (ps_ret (C8.pe_c cIC hr1 (by decide) (by rfl) (pa_cons (pv 1) (pa_cons (pv 2) pa_nil))))) pss_nil)
      (pss_cons (ps_if (pt_cmpR op_eq (pv 0) pe_str (nomark _)) (pss_one (ps_ret (C8.pe_c cIV hr2 (by decide) (by rfl) (pa_cons (pv 1) pa_nil)))) pss_nil)
      (pss_cons (ps_if (PW.pt (pw_and (pt_cmpR op_eq (pv 0) pe_str (nomark _)) (pw_and1 (pt_cmpR op_notN (pv 2) pe_non (nomark _))))) (pss_one (ps_ret (C8.pe_c cAP hr2 (by decide) (by rfl) (pa_cons (pv 1) (pa_cons pe_int (pa_cons (pv 2) pa_nil)))))) pss_nil)
      (pss_cons (ps_if (PW.pt (pw_or (pt_cmpR op_eq (pv 0) pe_str (nomark _)) (pw_or1 (pt_cmpR op_eq (pv 0) pe_str (nomark _))))) (pss_one (ps_ret (C8.pe_c cAP hr2 (by decide) (by rfl) (pa_cons (pv 1) (pa_cons pe_non (pa_cons (pv 2) pa_nil)))))) pss_nil)
      (pss_cons (ps_set (i := 3) scIP.nd rfl (Or.inl rfl) (pe_disp (pps_cons pe_str (pe_gref (by rfl) mV) (pps_cons pe_str (pe_gref (by rfl) mG) (pps_cons pe_str (pe_gref (by rfl) mO) (pps_cons pe_str (pe_gref (by rfl) mT) pps_nil)))) rfl rfl (by simp) (by decide)))
      (pss_one (ps_ret (C8.pe_c cIW hr1 (by decide) (by rfl) (pa_cons (pv 1) (pa_cons (pe_dget (units1 hr) (pv 3) (pv 0) (fun _ _ => rfl)) pa_nil)))))))))))), ?_⟩
    cases s
    case d =>
      cases x <;> first | exact False.elim ht | skip
      rename_i n
      obtain rfl := hd.int_inv
      refine ⟨_, rfl, rfl, true, congrArg V.bl (nmT (by decide +kernel)), ?_⟩
      exact ⟨_, rfl, _, _, rfl, rfl, .inr ⟨n, 7, rfl, k _ (fun _ _ e => e)⟩⟩
    case a =>
      cases x <;> first | exact False.elim ht | skip
      rename_i n
      obtain rfl := hd.int_inv
      refine ⟨_, rfl, rfl, false, congrArg V.bl (nmF (by decide +kernel)), ?_⟩
      refine ⟨_, rfl, rfl, true, congrArg V.bl (nmT (by decide +kernel)), ?_⟩
      exact ⟨_, rfl, _, _, rfl, rfl, .inr ⟨n, 7, rfl, k _ (fun _ _ e => e)⟩⟩
    case mb =>
      cases x <;> first | exact False.elim ht | skip
      rename_i n
      obtain rfl := hd.int_inv
      refine ⟨_, rfl, rfl, false, congrArg V.bl (nmF (by decide +kernel)), ?_⟩
      refine ⟨_, rfl, rfl, false, congrArg V.bl (nmF (by decide +kernel)), ?_⟩
      refine ⟨_, rfl, rfl, _, rfl, ifT (nmT (by decide +kernel)) ?_⟩
      have k0 := k H (fun _ _ e => e)
      have e0 : okP .mb (.reg n) = ((decide (0 ≤ n) && decide (n ≤ 7)) || decide (n = -1)) := rfl
      rw [e0] at k0
      refine ⟨_, rfl, _, _, rfl, rfl, .inr ⟨n, 7, rfl, ?_⟩⟩
      cases e : (decide (0 ≤ n) && decide (n ≤ 7)) with
      | true =>
        rw [e] at k0
        exact ⟨true, rfl, k0⟩
      | false =>
        rw [e, Bool.false_or] at k0
        refine ⟨false, rfl, ?_⟩
        refine ⟨_, rfl, _, _, _, _, _, rfl, .ty _, tyx_int, kit_ty kit_ii, ⟨true, rfl, ?_⟩⟩
        refine ⟨_, rfl, _, rfl, rfl, ?_⟩
        have e1 : decide (V.int n = V.int (-1)) = decide (n = -1) := by
          by_cases h : n = -1
          · rw [decide_eq_true h, decide_eq_true (congrArg V.int h)]
          · rw [decide_eq_false h]
            exact decide_eq_false fun q => h (V.int.inj q)
        show Q (.bl (decide (V.int n = V.int (-1)))) H
        rw [e1]
        exact k0
    case k =>
      cases x <;> first | exact False.elim ht | skip
      rename_i n
      obtain rfl := hd.int_inv
      refine ⟨_, rfl, rfl, false, congrArg V.bl (nmF (by decide +kernel)), ?_⟩
      refine ⟨_, rfl, rfl, false, congrArg V.bl (nmF (by decide +kernel)), ?_⟩
      refine ⟨_, rfl, rfl, _, rfl, ifF (nmF (by decide +kernel)) ?_⟩
      refine ⟨_, rfl, rfl, _, rfl, ifT (nmT (by decide +kernel)) ?_⟩
      exact ⟨_, rfl, .inr ⟨n, 3, rfl, k _ (fun _ _ e => e)⟩⟩
    case p =>
      cases x <;> first | exact False.elim ht | skip
      rename_i n
      obtain rfl := hd.int_inv
      refine ⟨_, rfl, rfl, false, congrArg V.bl (nmF (by decide +kernel)), ?_⟩
      refine ⟨_, rfl, rfl, false, congrArg V.bl (nmF (by decide +kernel)), ?_⟩
      refine ⟨_, rfl, rfl, _, rfl, ifF (nmF (by decide +kernel)) ?_⟩
      refine ⟨_, rfl, rfl, _, rfl, ifF (nmF (by decide +kernel)) ?_⟩
      refine ⟨_, rfl, rfl, true, congrArg V.bl (nmT (by decide +kernel)), ?_⟩
      refine ⟨_, rfl, _, rfl, .inl ⟨(n : Int), rfl, ?_⟩⟩
      rw [decide_eq_true (Int.natCast_nonneg n)]
      exact k _ (fun _ _ e => e)
    case i =>
      cases x <;> first | exact False.elim ht | skip
      rename_i n
      obtain rfl := hd.int_inv
      refine ⟨_, rfl, rfl, false, congrArg V.bl (nmF (by decide +kernel)), ?_⟩
      refine ⟨_, rfl, rfl, false, congrArg V.bl (nmF (by decide +kernel)), ?_⟩
      refine ⟨_, rfl, rfl, _, rfl, ifF (nmF (by decide +kernel)) ?_⟩
      refine ⟨_, rfl, rfl, _, rfl, ifF (nmF (by decide +kernel)) ?_⟩
      refine ⟨_, rfl, rfl, false, congrArg V.bl (nmF (by decide +kernel)), ?_⟩
      refine ⟨_, rfl, rfl, true, congrArg V.bl (nmT (by decide +kernel)), ?_⟩
      refine ⟨_, rfl, _, rfl, .inl ⟨(n : Int), rfl, ?_⟩⟩
      rw [decide_eq_true (Int.natCast_nonneg n)]
      exact k _ (fun _ _ e => e)
    case t =>
      cases x <;> first | exact False.elim ht | skip
      rename_i n
      obtain rfl := hd.int_inv
      refine ⟨_, rfl, rfl, false, congrArg V.bl (nmF (by decide +kernel)), ?_⟩
      refine ⟨_, rfl, rfl, false, congrArg V.bl (nmF (by decide +kernel)), ?_⟩
      refine ⟨_, rfl, rfl, _, rfl, ifF (nmF (by decide +kernel)) ?_⟩
      refine ⟨_, rfl, rfl, _, rfl, ifF (nmF (by decide +kernel)) ?_⟩
      refine ⟨_, rfl, rfl, false, congrArg V.bl (nmF (by decide +kernel)), ?_⟩
      refine ⟨_, rfl, rfl, false, congrArg V.bl (nmF (by decide +kernel)), ?_⟩
      refine ⟨_, rfl, rfl, true, congrArg V.bl (nmT (by decide +kernel)), ?_⟩
      refine ⟨_, rfl, _, rfl, .inl ⟨(n : Int), rfl, ?_⟩⟩
      rw [decide_eq_true (Int.natCast_nonneg n)]
      exact k _ (fun _ _ e => e)
    case value =>
      refine ⟨_, rfl, rfl, false, congrArg V.bl (nmF (by decide +kernel)), ?_⟩
      refine ⟨_, rfl, rfl, false, congrArg V.bl (nmF (by decide +kernel)), ?_⟩
      refine ⟨_, rfl, rfl, _, rfl, ifF (nmF (by decide +kernel)) ?_⟩
      refine ⟨_, rfl, rfl, _, rfl, ifF (nmF (by decide +kernel)) ?_⟩
      refine ⟨_, rfl, rfl, false, congrArg V.bl (nmF (by decide +kernel)), ?_⟩
      refine ⟨_, rfl, rfl, false, congrArg V.bl (nmF (by decide +kernel)), ?_⟩
      refine ⟨_, rfl, rfl, false, congrArg V.bl (nmF (by decide +kernel)), ?_⟩
      refine ⟨_, rfl, rfl, _, rfl, ifT (nmT (by decide +kernel)) ?_⟩
      refine ⟨_, rfl, v, x, rfl, ?_, ht, hd, hz, k⟩
      cases x <;> first | exact False.elim ht | exact .inl ⟨_, rfl⟩ | exact .inr ⟨_, rfl⟩
    case keys =>
      cases x <;> first | exact False.elim ht | skip
      rename_i l
      refine ⟨_, rfl, rfl, false, congrArg V.bl (nmF (by decide +kernel)), ?_⟩
      refine ⟨_, rfl, rfl, false, congrArg V.bl (nmF (by decide +kernel)), ?_⟩
      refine ⟨_, rfl, rfl, _, rfl, ifF (nmF (by decide +kernel)) ?_⟩
      refine ⟨_, rfl, rfl, _, rfl, ifF (nmF (by decide +kernel)) ?_⟩
      refine ⟨_, rfl, rfl, false, congrArg V.bl (nmF (by decide +kernel)), ?_⟩
      refine ⟨_, rfl, rfl, false, congrArg V.bl (nmF (by decide +kernel)), ?_⟩
      refine ⟨_, rfl, rfl, false, congrArg V.bl (nmF (by decide +kernel)), ?_⟩
      refine ⟨_, rfl, rfl, _, rfl, ifF (nmF (by decide +kernel)) ?_⟩
      refine ⟨_, rfl, rfl, true, congrArg V.bl (nmT (by decide +kernel)), ⟨_, rfl, rfl, false, rfl, ?_⟩⟩
      refine ⟨_, rfl, rfl, true, congrArg V.bl (nmT (by decide +kernel)), ?_⟩
      refine ⟨_, rfl, _, rfl, v, l, rfl, hd, ?_, k⟩
      have q := flat_le1 (e := cb) (fun x => cb_pos x) l
      simp only [encP, List.length_append] at hz
      omega
    case members =>
      cases x <;> first | exact False.elim ht | skip
      rename_i l
      refine ⟨_, rfl, rfl, false, congrArg V.bl (nmF (by decide +kernel)), ?_⟩
      refine ⟨_, rfl, rfl, false, congrArg V.bl (nmF (by decide +kernel)), ?_⟩
      refine ⟨_, rfl, rfl, _, rfl, ifF (nmF (by decide +kernel)) ?_⟩
      refine ⟨_, rfl, rfl, _, rfl, ifF (nmF (by decide +kernel)) ?_⟩
      refine ⟨_, rfl, rfl, false, congrArg V.bl (nmF (by decide +kernel)), ?_⟩
      refine ⟨_, rfl, rfl, false, congrArg V.bl (nmF (by decide +kernel)), ?_⟩
      refine ⟨_, rfl, rfl, false, congrArg V.bl (nmF (by decide +kernel)), ?_⟩
      refine ⟨_, rfl, rfl, _, rfl, ifF (nmF (by decide +kernel)) ?_⟩
      refine ⟨_, rfl, rfl, false, congrArg V.bl (nmF (by decide +kernel)), ?_⟩
      refine ⟨_, rfl, rfl, false, congrArg V.bl (nmF (by decide +kernel)), ?_⟩
      refine ⟨_, rfl, rfl, true, congrArg V.bl (nmT (by decide +kernel)), ?_⟩
      refine ⟨_, rfl, _, rfl, v, l, rfl, hd, ?_, k⟩
      have q := flat_le1 (e := cb) (fun x => cb_pos x) l
      simp only [encP, List.length_append] at hz
      omega
    case word =>
      cases x <;> first | exact False.elim ht | skip
      rename_i c j
      obtain ⟨rfl, hj⟩ := (show c = 0 ∧ j < nC 0 from ht)
      obtain rfl := hd.str_inv
      refine ⟨_, rfl, rfl, false, congrArg V.bl (nmF (by decide +kernel)), ?_⟩
      refine ⟨_, rfl, rfl, false, congrArg V.bl (nmF (by decide +kernel)), ?_⟩
      refine ⟨_, rfl, rfl, _, rfl, ifF (nmF (by decide +kernel)) ?_⟩
      refine ⟨_, rfl, rfl, _, rfl, ifF (nmF (by decide +kernel)) ?_⟩
      refine ⟨_, rfl, rfl, false, congrArg V.bl (nmF (by decide +kernel)), ?_⟩
      refine ⟨_, rfl, rfl, false, congrArg V.bl (nmF (by decide +kernel)), ?_⟩
      refine ⟨_, rfl, rfl, false, congrArg V.bl (nmF (by decide +kernel)), ?_⟩
      refine ⟨_, rfl, rfl, _, rfl, ifF (nmF (by decide +kernel)) ?_⟩
      refine ⟨_, rfl, rfl, false, congrArg V.bl (nmF (by decide +kernel)), ?_⟩
      refine ⟨_, rfl, rfl, false, congrArg V.bl (nmF (by decide +kernel)), ?_⟩
      refine ⟨_, rfl, rfl, false, congrArg V.bl (nmF (by decide +kernel)), ?_⟩
      intro p np
      refine ⟨upd_same, [(.inr "word", .ref aV), (.inr "sign", .ref aG), (.inr "compare", .ref aO), (.inr "sort", .ref aT)], rfl, by show 4 ≤ 15; decide, ?_⟩
      have s1 : Same H (upd (upd H p (.dK [])) p (.dK (mergeK [] [(.inr "word", V.ref aV), (.inr "sign", V.ref aG), (.inr "compare", V.ref aO), (.inr "sort", V.ref aT)]))) := (Same.upd np).updAt np
      refine ⟨_, rfl, _, rfl, _, rfl, p, .ref aV, rfl, .inl ⟨_, .inr (nm .word), .inl upd_same, rfl, rfl⟩, ?_⟩
      exact ⟨cw 0 j, aV, cws 0, rfl, kV'.sq, List.mem_of_getElem? (cw_here (by rw [cws_len 0 (by decide)]; exact hj)), k _ s1⟩
    case sign =>
      cases x <;> first | exact False.elim ht | skip
      rename_i c j
      obtain ⟨rfl, hj⟩ := (show c = 1 ∧ j < nC 1 from ht)
      obtain rfl := hd.str_inv
      refine ⟨_, rfl, rfl, false, congrArg V.bl (nmF (by decide +kernel)), ?_⟩
      refine ⟨_, rfl, rfl, false, congrArg V.bl (nmF (by decide +kernel)), ?_⟩
      refine ⟨_, rfl, rfl, _, rfl, ifF (nmF (by decide +kernel)) ?_⟩
      refine ⟨_, rfl, rfl, _, rfl, ifF (nmF (by decide +kernel)) ?_⟩
      refine ⟨_, rfl, rfl, false, congrArg V.bl (nmF (by decide +kernel)), ?_⟩
      refine ⟨_, rfl, rfl, false, congrArg V.bl (nmF (by decide +kernel)), ?_⟩
      refine ⟨_, rfl, rfl, false, congrArg V.bl (nmF (by decide +kernel)), ?_⟩
      refine ⟨_, rfl, rfl, _, rfl, ifF (nmF (by decide +kernel)) ?_⟩
      refine ⟨_, rfl, rfl, false, congrArg V.bl (nmF (by decide +kernel)), ?_⟩
      refine ⟨_, rfl, rfl, false, congrArg V.bl (nmF (by decide +kernel)), ?_⟩
      refine ⟨_, rfl, rfl, false, congrArg V.bl (nmF (by decide +kernel)), ?_⟩
      intro p np
      refine ⟨upd_same, [(.inr "word", .ref aV), (.inr "sign", .ref aG), (.inr "compare", .ref aO), (.inr "sort", .ref aT)], rfl, by show 4 ≤ 15; decide, ?_⟩
      have s1 : Same H (upd (upd H p (.dK [])) p (.dK (mergeK [] [(.inr "word", V.ref aV), (.inr "sign", V.ref aG), (.inr "compare", V.ref aO), (.inr "sort", V.ref aT)]))) := (Same.upd np).updAt np
      refine ⟨_, rfl, _, rfl, _, rfl, p, .ref aG, rfl, .inl ⟨_, .inr (nm .sign), .inl upd_same, rfl, rfl⟩, ?_⟩
      exact ⟨cw 1 j, aG, cws 1, rfl, kG.sq, List.mem_of_getElem? (cw_here (by rw [cws_len 1 (by decide)]; exact hj)), k _ s1⟩
    case compare =>
      cases x <;> first | exact False.elim ht | skip
      rename_i c j
      obtain ⟨rfl, hj⟩ := (show c = 2 ∧ j < nC 2 from ht)
      obtain rfl := hd.str_inv
      refine ⟨_, rfl, rfl, false, congrArg V.bl (nmF (by decide +kernel)), ?_⟩
      refine ⟨_, rfl, rfl, false, congrArg V.bl (nmF (by decide +kernel)), ?_⟩
      refine ⟨_, rfl, rfl, _, rfl, ifF (nmF (by decide +kernel)) ?_⟩
      refine ⟨_, rfl, rfl, _, rfl, ifF (nmF (by decide +kernel)) ?_⟩
      refine ⟨_, rfl, rfl, false, congrArg V.bl (nmF (by decide +kernel)), ?_⟩
      refine ⟨_, rfl, rfl, false, congrArg V.bl (nmF (by decide +kernel)), ?_⟩
      refine ⟨_, rfl, rfl, false, congrArg V.bl (nmF (by decide +kernel)), ?_⟩
      refine ⟨_, rfl, rfl, _, rfl, ifF (nmF (by decide +kernel)) ?_⟩
      refine ⟨_, rfl, rfl, false, congrArg V.bl (nmF (by decide +kernel)), ?_⟩
      refine ⟨_, rfl, rfl, false, congrArg V.bl (nmF (by decide +kernel)), ?_⟩
      refine ⟨_, rfl, rfl, false, congrArg V.bl (nmF (by decide +kernel)), ?_⟩
      intro p np
      refine ⟨upd_same, [(.inr "word", .ref aV), (.inr "sign", .ref aG), (.inr "compare", .ref aO), (.inr "sort", .ref aT)], rfl, by show 4 ≤ 15; decide, ?_⟩
      have s1 : Same H (upd (upd H p (.dK [])) p (.dK (mergeK [] [(.inr "word", V.ref aV), (.inr "sign", V.ref aG), (.inr "compare", V.ref aO), (.inr "sort", V.ref aT)]))) := (Same.upd np).updAt np
      refine ⟨_, rfl, _, rfl, _, rfl, p, .ref aO, rfl, .inl ⟨_, .inr (nm .compare), .inl upd_same, rfl, rfl⟩, ?_⟩
      exact ⟨cw 2 j, aO, cws 2, rfl, kO.sq, List.mem_of_getElem? (cw_here (by rw [cws_len 2 (by decide)]; exact hj)), k _ s1⟩
    case sort =>
      cases x <;> first | exact False.elim ht | skip
      rename_i c j
      obtain ⟨rfl, hj⟩ := (show c = 3 ∧ j < nC 3 from ht)
      obtain rfl := hd.str_inv
      refine ⟨_, rfl, rfl, false, congrArg V.bl (nmF (by decide +kernel)), ?_⟩
      refine ⟨_, rfl, rfl, false, congrArg V.bl (nmF (by decide +kernel)), ?_⟩
      refine ⟨_, rfl, rfl, _, rfl, ifF (nmF (by decide +kernel)) ?_⟩
      refine ⟨_, rfl, rfl, _, rfl, ifF (nmF (by decide +kernel)) ?_⟩
      refine ⟨_, rfl, rfl, false, congrArg V.bl (nmF (by decide +kernel)), ?_⟩
      refine ⟨_, rfl, rfl, false, congrArg V.bl (nmF (by decide +kernel)), ?_⟩
      refine ⟨_, rfl, rfl, false, congrArg V.bl (nmF (by decide +kernel)), ?_⟩
      refine ⟨_, rfl, rfl, _, rfl, ifF (nmF (by decide +kernel)) ?_⟩
      refine ⟨_, rfl, rfl, false, congrArg V.bl (nmF (by decide +kernel)), ?_⟩
      refine ⟨_, rfl, rfl, false, congrArg V.bl (nmF (by decide +kernel)), ?_⟩
      refine ⟨_, rfl, rfl, false, congrArg V.bl (nmF (by decide +kernel)), ?_⟩
      intro p np
      refine ⟨upd_same, [(.inr "word", .ref aV), (.inr "sign", .ref aG), (.inr "compare", .ref aO), (.inr "sort", .ref aT)], rfl, by show 4 ≤ 15; decide, ?_⟩
      have s1 : Same H (upd (upd H p (.dK [])) p (.dK (mergeK [] [(.inr "word", V.ref aV), (.inr "sign", V.ref aG), (.inr "compare", V.ref aO), (.inr "sort", V.ref aT)]))) := (Same.upd np).updAt np
      refine ⟨_, rfl, _, rfl, _, rfl, p, .ref aT, rfl, .inl ⟨_, .inr (nm .sort), .inl upd_same, rfl, rfl⟩, ?_⟩
      exact ⟨cw 3 j, aT, cws 3, rfl, kT.sq, List.mem_of_getElem? (cw_here (by rw [cws_len 3 (by decide)]; exact hj)), k _ s1⟩
end
end L2.KR

namespace L2.KR
open PySem PySem.Spec PyProof.Rows K53
/-! ### data can be laid -/
theorem strOk_nats {t : List Nat} (h : ∀ c ∈ t, okChar c = true) : PyData.strOk (SX.S t) = true := by
  have e : PyData.strOk (SX.S t) = t.all fun c => decide (c < 1114112) := by
    unfold PyData.strOk SX.S
    simp
  rw [e]
  refine List.all_eq_true.mpr fun c hc => decide_eq_true ?_
  have := okChar_lt (h c hc)
  omega
theorem emp_ok : PyData.strOk ((none : Option Str).getD Str.empty) = true := by decide +kernel
theorem strOk_cw : ∀ c j : Nat, PyData.strOk (cw c j) = true := by
  have key : ∀ l : List Str, (∀ x ∈ l, PyData.strOk x = true) → ∀ j, PyData.strOk (l.getD j Str.empty) = true := by
    intro l hl j
    rw [List.getD_eq_getElem?_getD]
    cases e : l[j]? with
    | none => exact emp_ok
    | some x => exact hl x (List.mem_of_getElem? e)
  have all4 : ∀ c, c < 4 → ∀ x ∈ cws c, PyData.strOk x = true := by decide +kernel
  intro c j
  by_cases h : c < 4
  · exact key _ (all4 c h) j
  · have e : cws c = [] := by
      unfold cws
      split <;> first | rfl | omega
    exact key _ (by rw [e]; intro x hx; cases hx) j
theorem strOk_wd (j : Nat) : PyData.strOk (wd j) = true := by
  have h : ∀ x ∈ wds, PyData.strOk x = true := by decide +kernel
  unfold wd
  rw [List.getD_eq_getElem?_getD]
  cases e : wds[j]? with
  | none => exact emp_ok
  | some x => exact h x (List.mem_of_getElem? e)
theorem strOk_kn (j : Nat) : PyData.strOk (kn j) = true := by
  have h : ∀ x ∈ kns, PyData.strOk x = true := by decide +kernel
  unfold kn
  rw [List.getD_eq_getElem?_getD]
  cases e : kns[j]? with
  | none => exact emp_ok
  | some x => exact h x (List.mem_of_getElem? e)
theorem lay_map {α : Type} {f : α → PyData} {n : Nat} : ∀ {l : List α}, (∀ x ∈ l, (f x).canLay0 = true ∧ (f x).depth ≤ n) → PyData.canLayAll0 (l.map f) = true ∧ PyData.depthAll (l.map f) ≤ n
  | [], _ => ⟨rfl, Nat.zero_le _⟩
  | x :: l, h => by
    obtain ⟨a1, a2⟩ := h x List.mem_cons_self
    obtain ⟨b1, b2⟩ := lay_map (l := l) fun y hy => h y (List.mem_cons_of_mem _ hy)
    refine ⟨?_, ?_⟩
    · show (PyData.canLay0 (f x) && PyData.canLayAll0 (l.map f)) = true
      rw [a1, b1]
      rfl
    · show max (PyData.depth (f x)) (PyData.depthAll (l.map f)) ≤ n
      exact Nat.max_le.mpr ⟨a2, b2⟩
theorem lay_tup {ds : List PyData} {n : Nat} (h : PyData.canLayAll0 ds = true ∧ PyData.depthAll ds ≤ n) : (PyData.tuple ds).canLay0 = true ∧ (PyData.tuple ds).depth ≤ n + 1 := by
  refine ⟨h.1, ?_⟩
  show PyData.depthAll ds + 1 ≤ n + 1
  exact Nat.succ_le_succ h.2
theorem lay_cons {d : PyData} {ds : List PyData} {n : Nat} (a : d.canLay0 = true ∧ d.depth ≤ n) (b : PyData.canLayAll0 ds = true ∧ PyData.depthAll ds ≤ n) : PyData.canLayAll0 (d :: ds) = true ∧ PyData.depthAll (d :: ds) ≤ n := by
  refine ⟨?_, ?_⟩
  · show (PyData.canLay0 d && PyData.canLayAll0 ds) = true
    rw [a.1, b.1]
    rfl
  · show max (PyData.depth d) (PyData.depthAll ds) ≤ n
    exact Nat.max_le.mpr ⟨a.2, b.2⟩
theorem lay_str {x : Str} {n : Nat} (h : PyData.strOk x = true) : (PyData.str x).canLay0 = true ∧ (PyData.str x).depth ≤ n := ⟨h, Nat.zero_le _⟩
theorem lay_int {i : Int} {n : Nat} : (PyData.int i).canLay0 = true ∧ (PyData.int i).depth ≤ n := ⟨rfl, Nat.zero_le _⟩
theorem lay_nil {n : Nat} : PyData.canLayAll0 [] = true ∧ PyData.depthAll [] ≤ n := ⟨rfl, Nat.zero_le _⟩
theorem lay_datP {s : Srt} {x : Prt} (h : typP s x) : (datP x).canLay0 = true ∧ (datP x).depth ≤ 1 := by
  cases x with
  | reg n => exact lay_int
  | cnt n => exact lay_int
  | val i => exact lay_tup (n := 0) (lay_cons (lay_str (by decide +kernel)) (lay_cons lay_int lay_nil))
  | txt t =>
    have ht : ∀ c ∈ t, okChar c = true := by cases s <;> first | exact False.elim h | exact h
    exact lay_tup (n := 0) (lay_cons (lay_str (by decide +kernel)) (lay_cons (lay_str (strOk_nats ht)) lay_nil))
  | wrd c j => exact lay_str (strOk_cw c j)
  | pls l => exact lay_tup (n := 0) (lay_map fun x _ => lay_int)
theorem lay_datR {r : K53.Row} (h : TypR r) : (datR r).canLay0 = true ∧ (datR r).depth ≤ 2 := by
  refine lay_tup (n := 1) (lay_cons (lay_str (strOk_wd _)) (lay_map fun x hx => ?_))
  obtain ⟨i, hi⟩ := List.getElem?_of_mem hx
  exact lay_datP (h.2.2 i x hi)
theorem lay_datC {c : K53.Code} (h : TypC c) : (datC c).canLay0 = true ∧ (datC c).depth ≤ 4 := by
  refine lay_tup (n := 3) (lay_cons ?_ (lay_cons ?_ lay_nil))
  · obtain ⟨a, b⟩ := lay_tup (n := 0) (lay_map (f := fun k => PyData.str (kn k)) (l := c.1) fun x _ => lay_str (strOk_kn x))
    exact ⟨a, by omega⟩
  · exact lay_tup (n := 2) (lay_map fun x hx => lay_datR (h.2 x hx))
theorem shaped_of {d : PyData} {n : Nat} (h : d.canLay0 = true ∧ d.depth ≤ n) (hn : n ≤ 64) : SeqAt.shaped d = true := by
  show (d.canLay0 && decide (d.depth ≤ 64)) = true
  rw [h.1, decide_eq_true (Nat.le_trans h.2 hn)]
  rfl
/-! ### is_row, most None -/
def oks (ss : List Srt) (ps : List Prt) : List Bool := List.zipWith okP ss ps
theorem oks_all : ∀ (ss : List Srt) (ps : List Prt), (oks ss ps).all id = okPs ss ps
  | [], [] => rfl
  | [], _ :: _ => rfl
  | _ :: _, [] => rfl
  | s :: ss, p :: ps => by
    show (okP s p && (oks ss ps).all id) = (okP s p && okPs ss ps)
    rw [oks_all ss ps]
theorem oks_get {ss : List Srt} {ps : List Prt} {i : Nat} {p : Prt} (h1 : i < ss.length) (h2 : ps[i]? = some p) : (oks ss ps)[i]? = some (okP (ss.getD i .d) p) := by
  unfold oks
  rw [List.getElem?_zipWith, h2, List.getD_eq_getElem?_getD, List.getElem?_eq_getElem h1]
  rfl
def spIR (K : PySem.W.Frag) : Sp := fun vs H Q _ => ∃ (v : V) (r : K53.Row), vs = [v, .non] ∧ TypR r ∧ Dp K H v (datR r) ∧ (encR r).length ≤ 1000000 ∧ ∀ H', Same H H' → Q (.bl (okR r)) H'
abbrev sIR : Stmt := top 17
section
variable {P : Program} {w : World} {K : PySem.W.Frag} {mg : Str → Option Value} {base : Heap}
theorem scIR : FnScope ["thing", "most", "sorts", "index"] ["thing", "most"] (defScope sIR) := ⟨rfl, rfl, rfl, by decide +kernel, rfl, by decide +kernel, by decide +kernel⟩
theorem ok_ir {f : Addr} {fd : FuncData} (F : Fun K "is_row" "is_row" sIR f fd) (T : Txt w K mg) (cIW : C8.Cal P w K mg base 1 "is_word" (spIW K) []) (cIP : C8.Cal P w K mg base 3 "is_part" (spIP K) []) : FnOk P w K mg base CX0 4 f fd ["thing", "most"] (spIR K) := by
  obtain ⟨aW, mW, kW⟩ := T.words
  obtain ⟨aP, mP, hP⟩ := T.parts
  refine F.ok scIR (fun vs H Q E h => ?_) (fun cdv A outer s0 H vs Q E hr h => ?_)
  · obtain ⟨v, x, rfl, _⟩ := h
    rfl
  · obtain ⟨v, r, rfl, ht, hd, hz, k⟩ := h
    have hr1 : Room 1 _ := hr.mono (by decide)
    refine ⟨_, pss_cons (ps_if (PW.pt (pw_or (pt_not (pt_val (pe_callB call_isi (by rfl) T.isi boot_isinstance (pa_cons (pv 0) (pa_cons (pe_bltn (v := .ty "tuple") (by rfl) T.tup boot_tuple rfl) pa_nil))))) (pw_or (pt_cmpR (op_eqD (units64 hr)) (pv 0) (pe_tup pa_nil) (nomark _)) (pw_or1 (pt_not (pt_val (C8.pe_c cIW hr1 (by decide) (by rfl) (pa_cons (pe_ix ix_tup (pv 0) pe_int (fun _ _ => rfl)) (pa_cons (pe_gref (by rfl) mW) pa_nil))))))))) (pss_one (ps_ret pe_bl)) pss_nil)
      (pss_cons (ps_set (i := 2) scIR.nd rfl (Or.inr rfl) (pe_ix ix_kdict (pe_gref (by rfl) mP) (pe_ix ix_tup (pv 0) pe_int (fun _ _ => rfl)) (fun _ _ => rfl)))
      (pss_cons (ps_if (pt_cmpR op_ne (pe_callB call_len_seq (by rfl) T.len PySem.boot_len (pa_cons (pv 0) pa_nil)) (pe_op op_add pe_int (pe_callB call_len_seq (by rfl) T.len PySem.boot_len (pa_cons (pv 2) pa_nil))) (nomark _)) (pss_one (ps_ret pe_bl)) pss_nil)
      (pss_one (ps_ret (pe_callB (cr_all rfl) (by rfl) T.all boot_all (pa_cons
        (pe_lc (own := [("index", 3)]) (g := gName 3) (tt := tYes) rfl scIR.nd (pi_range1 (by rfl) T.range (pa_cons (pe_callB call_len_seq (by rfl) T.len PySem.boot_len (pa_cons (pv 2) pa_nil)) pa_nil)) (blkOk_by (N := ["thing", "most", "sorts", "index"]) (sc := defScope sIR) (by decide +kernel))
          (fun _ _ _ _ _ => pg_name (i := 3) scIR.nd rfl (Or.inl rfl)) (fun _ _ _ _ _ => pts_nil) (fun _ _ _ _ _ => C8.pe_c cIP hr (by decide) (by rfl) (pa_cons (pe_ix (show IxR _ (rIxT K) from ix_tup) (pv 2) (pv 3) (fun _ _ => rfl)) (pa_cons (pe_ix (show IxR _ (rIxT K) from ix_tup) (pv 0) (pe_op op_add pe_int (pv 3)) (fun _ _ => rfl)) (pa_cons (pv 1) pa_nil))))) pa_nil)))))), ?_⟩
    obtain ⟨hj, hlen, htp⟩ := id ht
    obtain ⟨j, ps⟩ := r
    obtain ⟨a, xs, rfl, hq, hda⟩ := id hd.tup_inv
    have hlx := hda.length
    cases hda with
    | cons hw hpd =>
      rename_i wv pvs
      obtain rfl := hw.str_inv
      have hps : ps.length = (srt j).length := hlen
      have h4 := srt_le j
      have hpv : pvs.length = ps.length := by
        have := hpd.length
        rw [List.length_map] at this
        exact this
      obtain ⟨t, kt1, kt2⟩ := hP j hj
      refine ⟨_, rfl, _, _, _, _, _, rfl, .ty _, tyx_sqT hq, kit_ty kit_tt, ⟨true, rfl, ?_⟩⟩
      refine ⟨_, rfl, by show 0 ≤ sizeLine; exact Nat.zero_le _, fun p np => ?_⟩
      have s1 : Same H (upd H p (.tup [])) := Same.upd np
      refine ⟨datR (j, ps), .tuple [], hd.mono s1, .tup (SqT.of upd_same) .nil, shaped_of (lay_datR ht) (by decide), rfl, false, rfl, ?_⟩
      refine ⟨_, rfl, a, _, 0, _, rfl, rfl, s1.seqT hq, at_of (j := 0) rfl rfl, _, aW, wds, rfl, kW.sq, List.mem_of_getElem? (wd_here hj), true, rfl, ?_⟩
      refine ⟨_, rfl, a, _, 0, _, rfl, rfl, s1.seqT hq, at_of (j := 0) rfl rfl, aP, wd j, .ref t, rfl, rfl, kt1, ?_⟩
      refine ⟨_, rfl, a, _, rfl, .inr (s1.seqT hq), _, rfl, t, _, rfl, .inr kt2.sq, _, _, rfl, rfl, rfl, _, rfl, ifF ?_ ?_⟩
      · simp only [List.length_cons, List.length_map]
        rw [hpv, hps]
        have e : ((((srt j).length + 1 : Nat)) : Int) = 1 + (((srt j).length : Nat) : Int) := by omega
        rw [e, decide_eq_true rfl]
        rfl
      refine ⟨_, rfl, t, _, rfl, .inr kt2.sq, (srt j).length, by rw [List.length_map], by omega, by omega, fun D nD => ?_⟩
      refine lc_it walk_range (fun q H' => Same H H' ∧ H' D = some (.lst (((oks (srt j) ps).take q).map V.bl))) ⟨s1.trans (Same.upd nD), upd_same⟩ (fun q H' _ hp => trivial) ?_ ?_
      · rintro q x H2 H2' hq4 ⟨s3, h3⟩ ⟨rfl, rfl⟩
        have hqlt : q < ps.length := by omega
        have hq2 : q < (srt j).length := by omega
        have hpq : ps[q]? = some ps[q] := by simp [hqlt]
        obtain ⟨sv, hsv, hsd⟩ := hpd.getD (i := q) (d := datP ps[q]) (by rw [List.getElem?_map, hpq]; rfl)
        have hsrt : (srt j)[q]? = some ((srt j).getD q .d) := by
          rw [List.getD_eq_getElem?_getD, List.getElem?_eq_getElem hq2]
          rfl
        have e0 : (0 : Int) + (q : Int) = (q : Int) := by omega
        have hle : (encP ps[q]).length ≤ 1000000 := by
          have q1 := congrArg List.length (K53.flat_at (e := encP) hpq)
          simp only [encR, List.length_cons] at hz
          simp only [List.length_append] at q1
          omega
        refine ⟨rfl, ?_⟩
        show tCall (spIP K) [] C8.E0 (tCons (tOp (rIxT K) (tVar 2) (tVar 3)) (tCons (tOp (rIxT K) (tVar 0) (tOp (rI0 fun i j => V.int (i + j)) (tC (V.int 1)) (tVar 3))) (tCons (tVar 1) tNil))) [some (.ref a), some .non, some (.ref t), some (.int (0 + (q : Int)))] H2' _
        rw [e0]
        refine ⟨_, rfl, _, rfl, t, _, _, .str (nm ((srt j).getD q .d)), rfl, rfl, kt2.sq, at_of (j := q) (by omega) (by rw [List.getElem?_map, hsrt]; rfl), _, rfl, _, rfl, _, _, rfl, rfl, a, _, _, sv, rfl, rfl, s3.seqT hq, at_of (j := q + 1) (by omega) (by simpa using hsv), _, rfl, _, sv, _, rfl, htp q _ hpq, hsd.mono s3, hle, fun H3 s4 => ?_⟩
        refine ⟨_, s4 _ _ h3, smallLt (by rw [List.length_map, List.length_take]; omega), (s3.trans s4).updAt ((s1.trans (fun _ _ e => e)).free nD), ?_⟩
        rw [upd_same, List.take_add_one, oks_get hq2 hpq, List.map_append]
        rfl
      · rintro H2 ⟨s3, h3⟩
        have hlo : (oks (srt j) ps).length = (srt j).length := by
          unfold oks
          rw [List.length_zipWith]
          omega
        have e1 : ((((srt j).length : Nat) : Int)).toNat = (oks (srt j) ps).length := by omega
        rw [e1, List.take_length] at h3
        refine ⟨D, oks (srt j) ps, rfl, SqL.of h3, ?_⟩
        rw [oks_all]
        exact k _ s3
end
/-! ### has_form, most None -/
def spHF (K : PySem.W.Frag) : Sp := fun vs H Q _ => ∃ (v : V) (c : K53.Code), vs = [v, .non] ∧ TypC c ∧ Dp K H v (datC c) ∧ (enc c).length ≤ 1000000 ∧ ∀ H', Same H H' → Q (.bl (okC c)) H'
abbrev sHF : Stmt := top 18
section
variable {P : Program} {w : World} {K : PySem.W.Frag} {mg : Str → Option Value} {base : Heap}
theorem scHF : FnScope ["thing", "most", "kinds", "rows", "kind", "row"] ["thing", "most"] (defScope sHF) := ⟨rfl, rfl, rfl, by decide +kernel, rfl, by decide +kernel, by decide +kernel⟩
theorem ok_hf {f : Addr} {fd : FuncData} (F : Fun K "has_form" "has_form" sHF f fd) (T : Txt w K mg) (cIW : C8.Cal P w K mg base 1 "is_word" (spIW K) []) (cIR : C8.Cal P w K mg base 4 "is_row" (spIR K) []) : FnOk P w K mg base CX0 5 f fd ["thing", "most"] (spHF K) := by
  refine F.ok scHF (fun vs H Q E h => ?_) (fun cdv A outer s0 H vs Q E hr h => ?_)
  · obtain ⟨v, x, rfl, _⟩ := h
    rfl
  · obtain ⟨v, c, rfl, ht, hd, hz, k⟩ := h
    have hr1 : Room 1 _ := hr.mono (by decide)
    refine ⟨_, pss_cons (ps_if (PW.pt (pw_or (pt_not (pt_val (pe_callB call_isi (by rfl) T.isi boot_isinstance (pa_cons (pv 0) (pa_cons (pe_bltn (v := .ty "tuple") (by rfl) T.tup boot_tuple rfl) pa_nil))))) (pw_or1 (pt_cmpR op_ne (pe_callB call_len_seq (by rfl) T.len PySem.boot_len (pa_cons (pv 0) pa_nil)) pe_int (nomark _))))) (pss_one (ps_ret pe_bl)) pss_nil)
      (pss_cons (ps_asg (pv 0) (pg_tup rfl (pgs_cons (pg_name (i := 2) scHF.nd rfl (Or.inl rfl)) (pgs_cons (pg_name (i := 3) scHF.nd rfl (Or.inl rfl)) pgs_nil))))
      (pss_cons (ps_if (PW.pt (pw_or (pt_not (pt_val (pe_callB call_isi (by rfl) T.isi boot_isinstance (pa_cons (pv 2) (pa_cons (pe_bltn (v := .ty "tuple") (by rfl) T.tup boot_tuple rfl) pa_nil))))) (pw_or1 (pt_not (pt_val (pe_callB call_isi (by rfl) T.isi boot_isinstance (pa_cons (pv 3) (pa_cons (pe_bltn (v := .ty "tuple") (by rfl) T.tup boot_tuple rfl) pa_nil)))))))) (pss_one (ps_ret pe_bl)) pss_nil)
      (pss_one (ps_ret (pe_and (pe_callB (cr_all rfl) (by rfl) T.all boot_all (pa_cons
        (pe_lc (own := [("kind", 4)]) (g := gName 4) (tt := tYes) rfl scHF.nd (pi_tup (pv 2)) (blkOk_by (N := ["thing", "most", "kinds", "rows", "kind", "row"]) (sc := defScope sHF) (by decide +kernel))
          (fun _ _ _ _ _ => pg_name (i := 4) scHF.nd rfl (Or.inl rfl)) (fun _ _ _ _ _ => pts_nil) (fun _ _ _ _ _ => C8.pe_c cIW hr1 (by decide) (by rfl) (pa_cons (pv 4) (pa_cons (pe_tup (pa_cons pe_str (pa_cons pe_str pa_nil))) pa_nil)))) pa_nil))
       (pe_one (pe_callB (cr_all rfl) (by rfl) T.all boot_all (pa_cons
        (pe_lc (own := [("row", 5)]) (g := gName 5) (tt := tYes) rfl scHF.nd (pi_tup (pv 3)) (blkOk_by (N := ["thing", "most", "kinds", "rows", "kind", "row"]) (sc := defScope sHF) (by decide +kernel))
          (fun _ _ _ _ _ => pg_name (i := 5) scHF.nd rfl (Or.inl rfl)) (fun _ _ _ _ _ => pts_nil) (fun _ _ _ _ _ => C8.pe_c cIR hr (by decide) (by rfl) (pa_cons (pv 5) (pa_cons (pv 1) pa_nil)))) pa_nil)))))))), ?_⟩
    obtain ⟨a, xs, rfl, hq, hda⟩ := id hd.tup_inv
    cases hda with
    | cons hk r1 =>
      cases r1 with
      | cons hrs r2 =>
        cases r2
        obtain ⟨ak, ks, rfl, hqk, hdk⟩ := hk.tup_inv
        obtain rfl := hdk.strs_inv
        obtain ⟨ar, rs, rfl, hqr, hdr⟩ := hrs.tup_inv
        have lrs : rs.length = c.2.length := by rw [hdr.length, List.length_map]
        have hz0 : c.1.length + (c.2.flatMap encR).length ≤ 1000000 := by
          simp only [enc, List.length_append] at hz
          omega
        have hl2 := flat_le1 (e := encR) (fun x => by show 1 ≤ (x.1 :: x.2.flatMap encP).length; rw [List.length_cons]; omega) c.2
        refine ⟨_, rfl, _, _, _, _, _, rfl, .ty _, tyx_sqT hq, kit_ty kit_tt, ⟨true, rfl, ?_⟩⟩
        refine ⟨_, rfl, a, _, rfl, .inr hq, rfl, false, rfl, ?_⟩
        refine ⟨_, rfl, a, _, rfl, hq, rfl, _, _, rfl, _, _, rfl, rfl, ?_⟩
        refine ⟨_, rfl, _, _, _, _, _, rfl, .ty _, tyx_sqT hqk, kit_ty kit_tt, ⟨true, rfl, ?_⟩⟩
        refine ⟨_, rfl, _, _, _, _, _, rfl, .ty _, tyx_sqT hqr, kit_ty kit_tt, ⟨true, rfl, ?_⟩⟩
        refine ⟨_, rfl, _, rfl, ⟨_, hqk⟩, fun D nD => ?_⟩
        refine lc_it walk_tup (fun j H' => Same H H' ∧ H' D = some (.lst ((List.replicate j true).map V.bl))) ⟨Same.upd nD, upd_same⟩ (fun j H' _ hp => hp.1.seqT hqk) ?_ ?_
        · rintro j x2 H2 H2' hj ⟨s3, h3⟩ ⟨rfl, hx⟩
          rw [List.length_map] at hj
          rw [List.getElem?_map] at hx
          obtain ⟨kk, hkk, rfl⟩ : ∃ kk, c.1[j]? = some kk ∧ V.str (kn kk) = x2 := by
            cases e : c.1[j]? with
            | none => rw [e] at hx; cases hx
            | some kk => rw [e] at hx; exact ⟨kk, rfl, Option.some.inj hx⟩
          have hk2 : kk < 2 := ht.1 kk (List.mem_of_getElem? hkk)
          refine ⟨rfl, _, rfl, by show 2 ≤ sizeLine; decide, fun p np => ?_⟩
          have s4 : Same H (upd H2' p (.tup [.str "int", .str "str"])) := s3.trans (Same.upd np)
          have h4 : upd H2' p (.tup [.str "int", .str "str"]) D = some (.lst ((List.replicate j true).map V.bl)) := Same.upd np _ _ h3
          refine ⟨kn kk, p, kns, rfl, SqT.of upd_same, List.mem_of_getElem? (kn_here kk hk2), _, h4, smallLt (by rw [List.length_map, List.length_replicate]; omega), s4.updAt nD, ?_⟩
          rw [upd_same, List.replicate_succ', List.map_append]
          rfl
        · rintro H2 ⟨s3, h3⟩
          refine ⟨D, List.replicate _ true, rfl, SqL.of h3, ?_⟩
          have e : (List.replicate (c.1.map fun k => V.str (kn k)).length true).all id = true := by simp
          rw [e]
          refine ⟨true, rfl, ?_⟩
          refine ⟨_, rfl, _, rfl, ⟨_, s3.seqT hqr⟩, fun D2 nD2 => ?_⟩
          refine lc_it walk_tup (fun j H' => Same H H' ∧ H' D2 = some (.lst (((c.2.take j).map okR).map V.bl))) ⟨s3.trans (Same.upd nD2), upd_same⟩ (fun j H' _ hp => hp.1.seqT hqr) ?_ ?_
          · rintro j x2 H4 H4' hj ⟨s5, h5⟩ ⟨rfl, hx⟩
            obtain ⟨d, hd1, hd2⟩ := hdr.get hx
            rw [List.getElem?_map] at hd1
            obtain ⟨row, hrow, rfl⟩ : ∃ row, c.2[j]? = some row ∧ datR row = d := by
              cases e : c.2[j]? with
              | none => rw [e] at hd1; cases hd1
              | some row => rw [e] at hd1; exact ⟨row, rfl, Option.some.inj hd1⟩
            have hle := congrArg List.length (K53.flat_at (e := encR) hrow)
            simp only [List.length_append] at hle
            refine ⟨rfl, _, rfl, _, rfl, _, row, rfl, ht.2 row (List.mem_of_getElem? hrow), hd2.mono s5, by omega, fun H5 s6 => ?_⟩
            refine ⟨_, s6 _ _ h5, smallLt (by rw [List.length_map, List.length_map, List.length_take]; omega), (s5.trans s6).updAt (s3.free nD2), ?_⟩
            rw [upd_same, List.take_add_one, hrow, List.map_append, List.map_append]
            rfl
          · rintro H4 ⟨s5, h5⟩
            rw [lrs, List.take_length] at h5
            refine ⟨D2, c.2.map okR, rfl, SqL.of h5, ?_⟩
            have e2 : (c.2.map okR).all id = okC c := by
              unfold okC
              rw [List.all_map]
              rfl
            rw [e2]
            exact k _ s5
end
end L2.KR

namespace L2.KR
open PySem PySem.Spec PyProof.Rows K53
/-! ### the class Bytes -/
abbrev bmV : List Value := [.type "ValueError", .type "Exception", .type "BaseException", .type "object"]
structure TxtB (w : World) (K : PySem.W.Frag) (mg : Str → Option Value) (C CB : Addr) : Prop where
  cl : Cls K C
  nR : NoAttr K C "row"
  nA : NoAttr K C "at"
  mgC : mg "Bytes" = some (.ref C)
  bad : mg "BadBytes" = some (.ref CB)
  exc : PySem.W.excIn K CB bmV "ValueError.__new__" = true
  kpB : PySem.W.keepIn K (.ref CB) = true
  sub : PySem.W.subIn K (.ref CB) (.type "BaseException") = some true
  typ : PySem.W.typeIn K (.ref CB) = some (.type "type")
/-- a method of the class -/
structure CalX (P : Program) (w : World) (K : PySem.W.Frag) (mg : Str → Option Value) (base : Heap) (k : Nat) (C : Addr) (m : Str) (sp : Sp) : Prop where
  ex : ∃ (f : Addr) (fd : FuncData) (ps : List Str), Cls K C ∧ Meth K C m f ∧ FnOk P w K mg base (L2.CX P w) k f fd ps sp ∧ Binds K fd ps []
section
variable {X : Cx} {k j : Nat} {C : Addr} {m : Str} {sp : Sp} {pos apos : Pos} {e o : Expr} {es : List Expr} {ta : TE} {t : TA} {E : XK}
theorem pe_mX {pl : Sem Bool} (c : CalX X.prog X.w X.K X.mg X.base k C m sp) (hr : Room j X.A) (hk : k ≤ j) (hx : Passes (L2.CX X.prog X.w) X E) (he : PE X o ta) (ha : PA X (e :: es) t)
    (hst : starEach (e :: es) X.env = (false, eval e X.env) :: starEach es X.env := by rfl) (hpl : (backTo pos (starEach es X.env)).any (·.1) = false := by rfl)
    (ht : eval (.Call (.Attribute o m apos) (e :: es) [] pos) X.env = (do
      let ov ← eval o X.env
      standAt apos.atName
      let (f, first) ← holding [ov] (getMethod ov m pl)
      callWith pos f first (backTo pos (starEach (e :: es) X.env)) (backToKw pos (keywordEach [] X.env))) := by rfl) :
    PE X (.Call (.Attribute o m apos) (e :: es) [] pos) (tMeth C m sp [] E ta t) := by
  obtain ⟨f, fd, ps, hc, hm, F, b⟩ := c.ex
  exact pe_meth (pl := pl) he hc hm F (hr.mono hk) b .nil hx ha hst hpl ht
theorem pe_mX0 {pl : Sem Bool} (c : CalX X.prog X.w X.K X.mg X.base k C m sp) (hr : Room j X.A) (hk : k ≤ j) (hx : Passes (L2.CX X.prog X.w) X E) (he : PE X o ta)
    (ht : eval (.Call (.Attribute o m apos) [] [] pos) X.env = (do
      let ov ← eval o X.env
      standAt apos.atName
      let (f, first) ← holding [ov] (getMethod ov m pl)
      callWith pos f first (backTo pos (starEach [] X.env)) (backToKw pos (keywordEach [] X.env))) := by rfl) :
    PE X (.Call (.Attribute o m apos) [] [] pos) (tMeth C m sp [] E ta tNil) := by
  obtain ⟨f, fd, ps, hc, hm, F, b⟩ := c.ex
  exact pe_meth0 (pl := pl) he hc hm F (hr.mono hk) b .nil hx ht
end
/-! ### the state -/
def pf (r : Addr) (n : Nat) : List (Str × V) := [("row", .ref r), ("at", .int ((n : Nat) : Int))]
theorem ra_ : ¬ (("row" : Str) = "at") := by decide +kernel
theorem ar_ : ¬ (("at" : Str) = "row") := by decide +kernel
theorem pf_row (r : Addr) (n : Nat) : (pf r n).lookup ("row" : Str) = some (.ref r) := by
  unfold pf
  simp [List.lookup]
theorem pf_at (r : Addr) (n : Nat) : (pf r n).lookup ("at" : Str) = some (.int ((n : Nat) : Int)) := by
  have h : (("at" : Str) == "row") = false := by decide +kernel
  unfold pf
  simp [List.lookup, h]
theorem pf_no (r : Addr) (n : Nat) {m : Str} (h1 : (m == ("row" : Str)) = false) (h2 : (m == ("at" : Str)) = false) : (pf r n).lookup m = none := by
  unfold pf
  simp [List.lookup, h1, h2]
theorem pf_put (r : Addr) (n m : Nat) : putF "at" (.int ((m : Nat) : Int)) (pf r n) = pf r m := by
  unfold pf
  show (if ("row" : Str) = "at" then _ else (("row" : Str), V.ref r) :: (if ("at" : Str) = "at" then [(("at" : Str), V.int ((m : Nat) : Int))] else _)) = _
  rw [if_neg ra_, if_pos rfl]
theorem pf_new (r : Addr) : putF "at" (.int 0) (putF "row" (.ref r) []) = pf r 0 := by
  unfold pf
  show (if ("row" : Str) = "at" then _ else (("row" : Str), V.ref r) :: putF "at" (.int 0) []) = _
  rw [if_neg ra_]
  rfl
/-- the object at p has read of the row bs (at r) all but l -/
structure SrcL (C p r dx : Addr) (bs : List Nat) (H : Hp) (l : List Nat) : Prop where
  ex : ∃ n, l = bs.drop n ∧ n ≤ bs.length ∧ H p = some (.ins C dx (pf r n))
  row : H r = some (.lst (nats bs))
section
variable {C p r dx : Addr} {bs l : List Nat} {H H' : Hp}
theorem SrcL.ne (s : SrcL C p r dx bs H l) : r ≠ p := by
  obtain ⟨n, _, _, h⟩ := s.ex
  exact fun e => by
    have := s.row
    rw [e, h] at this
    cases this
theorem SrcL.same (s : SrcL C p r dx bs H l) (e : Same H H') : SrcL C p r dx bs H' l := by
  obtain ⟨n, h1, h2, h⟩ := s.ex
  exact ⟨⟨n, h1, h2, e _ _ h⟩, e _ _ s.row⟩
theorem SrcL.le (s : SrcL C p r dx bs H l) : l.length ≤ bs.length := by
  obtain ⟨n, rfl, _, _⟩ := s.ex
  rw [List.length_drop]
  omega
theorem SrcL.there (s : SrcL C p r dx bs H l) : H p ≠ none := by
  obtain ⟨n, _, _, h⟩ := s.ex
  rw [h]
  exact fun e => by cases e
end
/-- what a reader gives -/
def Out (K : PySem.W.Frag) (C CB p r dx : Addr) (bs : List Nat) {α : Type} (dat : α → PyData) (o : Option (α × List Nat)) (H : Hp) (Q : VK) (E : XK) : Prop :=
  (o = none → ∀ H', But p H H' → E (.ref CB) none H') ∧ ∀ x l', o = some (x, l') → ∀ v H', But p H H' → SrcL C p r dx bs H' l' → Dp K H' v (dat x) → Q v H'
/-- a reader without arguments -/
def spRd (K : PySem.W.Frag) (C CB : Addr) {α : Type} (dat : α → PyData) (f : P α) : Sp := fun vs H Q E => ∃ p r dx bs l, vs = [.ref p] ∧ SrcL C p r dx bs H l ∧ bs.length ≤ 1000000 ∧ Out K C CB p r dx bs dat (f l) H Q E
section
variable {P : Program} {w : World} {K : PySem.W.Frag} {mg : Str → Option Value} {base : Heap} {C CB : Addr}
/-! ### __init__ -/
def spBI (C : Addr) : Sp := fun vs H Q _ => ∃ (p r dx : Addr), vs = [.ref p, .ref r] ∧ H p = some (.ins C dx []) ∧ ∀ H', But p H H' → H' p = some (.ins C dx (pf r 0)) → Q .non H'
abbrev sBI : Stmt := inClass (top 34) 0
theorem scBI : FnScope ["self", "row"] ["self", "row"] (defScope sBI) := ⟨rfl, rfl, rfl, by decide +kernel, rfl, by decide +kernel, by decide +kernel⟩
theorem ok_bi {f : Addr} {fd : FuncData} (F : Fun K "__init__" "Bytes.__init__" sBI f fd) (T : Txt w K mg) (B : TxtB w K mg C CB) : FnOk P w K mg base CX0 1 f fd ["self", "row"] (spBI C) := by
  refine F.ok scBI (fun vs H Q E h => ?_) (fun cdv A outer s H vs Q E hr h => ?_)
  · obtain ⟨p, r, dx, rfl, _⟩ := h
    rfl
  · obtain ⟨p, r, dx, rfl, hp, k⟩ := h
    refine ⟨_, pss_cons (ps_fld (pv 0) (pv 1) rfl) (pss_one (ps_fld (pv 0) pe_int rfl)), ?_⟩
    refine ⟨_, rfl, _, rfl, p, C, dx, [], rfl, hp, B.cl, B.nR, by show 0 < 1000; decide, ?_⟩
    refine ⟨_, rfl, p, C, dx, _, rfl, upd_same, B.cl, B.nA, by show 1 < 1000; decide, ?_⟩
    refine k _ (But.upd.trans But.upd) ?_
    rw [upd_same, pf_new]
/-! ### take -/
abbrev sTK : Stmt := inClass (top 34) 1
theorem scTK : FnScope ["self"] ["self"] (defScope sTK) := ⟨rfl, rfl, rfl, by decide +kernel, rfl, by decide +kernel, by decide +kernel⟩
theorem ok_tk {f : Addr} {fd : FuncData} (F : Fun K "take" "Bytes.take" sTK f fd) (T : Txt w K mg) (B : TxtB w K mg C CB) : FnOk P w K mg base (L2.CX P w) 1 f fd ["self"] (spRd K C CB dI pTake) := by
  refine F.okX scTK (fun vs H Q E h => ?_) (fun cdv A outer s H vs Q E hr h => ?_)
  · obtain ⟨p, r, dx, bs, l, rfl, _⟩ := h
    rfl
  · obtain ⟨p, r, dx, bs, l, rfl, hs, hz, k0, k1⟩ := h
    refine ⟨_, pss_cons (ps_if (pt_cmpR op_ge (pe_fld (pv 0) rfl) (pe_callB call_len_seq (by rfl) T.len PySem.boot_len (pa_cons (pe_fld (pv 0) rfl) pa_nil)) (nomark _)) (pss_one (ps_raise rfl (takes_of rfl rfl rfl rfl) (pmk_own PySem.F.excBase_ValueError B.exc B.bad B.kpB (raises_own B.sub B.typ) (by rfl)))) pss_nil)
      (pss_cons (ps_fld (pv 0) (pe_op op_add (pe_fld (pv 0) rfl) pe_int) rfl)
      (pss_one (ps_ret (pe_ix ix_list (pe_fld (pv 0) rfl) (pe_op op_sub (pe_fld (pv 0) rfl) pe_int) (fun _ _ => rfl))))), ?_⟩
    obtain ⟨n, rfl, hn, hp⟩ := hs.ex
    have hrow := hs.row
    have hne := hs.ne
    refine ⟨_, rfl, p, C, dx, _, _, rfl, hp, B.cl, B.nA, pf_at _ _, _, rfl, p, C, dx, _, _, rfl, hp, B.cl, B.nR, pf_row _ _, r, _, rfl, .inl (SqL.of hrow), _, _, rfl, rfl, _, rfl, ?_⟩
    rw [nats_length]
    by_cases hlt : n < bs.length
    · have hb : bs[n]? = some bs[n] := by simp [hlt]
      have hd : bs.drop n = bs[n] :: bs.drop (n + 1) := List.drop_eq_getElem_cons hlt
      refine ifF (decide_eq_false (by omega)) ?_
      have ep : putF "at" (.int ((n : Int) + 1)) (pf r n) = pf r (n + 1) := pf_put r n (n + 1)
      have hp2 : upd H p (.ins C dx (putF "at" (.int ((n : Int) + 1)) (pf r n))) p = some (.ins C dx (pf r (n + 1))) := by rw [upd_same, ep]
      have hr2 : upd H p (.ins C dx (putF "at" (.int ((n : Int) + 1)) (pf r n))) r = some (.lst (nats bs)) := by rw [upd_ne hne]; exact hrow
      refine ⟨_, rfl, p, C, dx, _, _, rfl, hp, B.cl, B.nA, pf_at _ _, _, _, rfl, rfl, _, rfl, p, C, dx, _, rfl, hp, B.cl, B.nA, by show 2 < 1000; decide, ?_⟩
      refine ⟨_, rfl, p, C, dx, _, _, rfl, hp2, B.cl, B.nR, pf_row _ _, _, rfl, p, C, dx, _, _, rfl, hp2, B.cl, B.nA, pf_at _ _, _, _, rfl, rfl, r, _, _, .int ((bs[n] : Nat) : Int), rfl, rfl, SqL.of hr2, at_of (j := n) (by omega) (nats_at hb), ?_⟩
      exact k1 bs[n] (bs.drop (n + 1)) (by rw [hd]; rfl) _ _ But.upd ⟨⟨n + 1, rfl, hlt, hp2⟩, hr2⟩ (.int _)
    · have hd : bs.drop n = [] := List.drop_eq_nil_of_le (by omega)
      refine ifT (decide_eq_true (by omega)) ?_
      exact k0 (by rw [hd]; rfl) H (But.refl p H)
/-! ### choice -/
/-- choice(words) -/
def spCH (K : PySem.W.Frag) (C CB : Addr) : Sp := fun vs H Q E => ∃ p r dx bs l a, ∃ ws : List Str, vs = [.ref p, .ref a] ∧ SqT K H a (ws.map V.str) ∧ SrcL C p r dx bs H l ∧ bs.length ≤ 1000000 ∧ Out K C CB p r dx bs (fun j => .str (ws.getD j Str.empty)) (pChoice ws.length l) H Q E
abbrev sCH : Stmt := inClass (top 34) 2
theorem scCH : FnScope ["self", "words", "index"] ["self", "words"] (defScope sCH) := ⟨rfl, rfl, rfl, by decide +kernel, rfl, by decide +kernel, by decide +kernel⟩
/-- a tuple that is not the object -/
theorem _root_.L2.KR.But.tup {H H' : Hp} {p a : Addr} {xs : List V} (e : But p H H') (h : SqT K H a xs) (hp : ∃ C dx fs, H p = some (.ins C dx fs)) : SqT K H' a xs := by
  obtain ⟨C, dx, fs, hp⟩ := hp
  have ne : ∀ {o : HO}, H a = some o → (∀ C dx fs, o ≠ .ins C dx fs) → a ≠ p := fun {o} h1 h2 z => by
    rw [z, hp] at h1
    exact h2 _ _ _ (Option.some.inj h1).symm
  rcases h with (h | ⟨o, h⟩) | h
  · exact .inl (.inl (e _ _ (ne h (fun _ _ _ z => by cases z)) h))
  · exact .inl (.inr ⟨o, e _ _ (ne h (fun _ _ _ z => by cases z)) h⟩)
  · exact .inr h
theorem SrcL.isIns {p r dx : Addr} {bs l : List Nat} {H : Hp} (s : SrcL C p r dx bs H l) : ∃ C dx fs, H p = some (.ins C dx fs) := by
  obtain ⟨n, _, _, h⟩ := s.ex
  exact ⟨_, _, _, h⟩
theorem pf_none {r : Addr} {n : Nat} {m : Str} (h : (!(m == ("row" : Str)) && !(m == ("at" : Str))) = true) : (pf r n).lookup m = none := by
  rw [Bool.and_eq_true, Bool.not_eq_true', Bool.not_eq_true'] at h
  exact pf_no r n h.1 h.2
theorem ok_ch {f : Addr} {fd : FuncData} (F : Fun K "choice" "Bytes.choice" sCH f fd) (T : Txt w K mg) (B : TxtB w K mg C CB) (cTK : CalX P w K mg base 1 C "take" (spRd K C CB dI pTake)) : FnOk P w K mg base (L2.CX P w) 2 f fd ["self", "words"] (spCH K C CB) := by
  refine F.okX scCH (fun vs H Q E h => ?_) (fun cdv A outer s H vs Q E hr h => ?_)
  · obtain ⟨p, r, dx, bs, l, a, ws, rfl, _⟩ := h
    rfl
  · obtain ⟨p, r, dx, bs, l, a, ws, rfl, hq, hs, hz, k0, k1⟩ := h
    have tk := takes_of (X := cxOf (L2.CX P w) P w K mg base ["self", "words", "index"] "Bytes.choice" (defScope sCH) f cdv A outer s H E) rfl rfl rfl rfl
    refine ⟨_, pss_cons (ps_set (i := 2) scCH.nd rfl (Or.inl rfl) (pe_mX0 cTK hr (by decide) (passes_call tk (fun _ _ _ _ h => h)) (pv 0)))
      (pss_cons (ps_if (pt_cmpR op_ge (pv 2) (pe_callB call_len_seq (by rfl) T.len PySem.boot_len (pa_cons (pv 1) pa_nil)) (nomark _)) (pss_one (ps_raise rfl tk (pmk_own PySem.F.excBase_ValueError B.exc B.bad B.kpB (raises_own B.sub B.typ) (by rfl)))) pss_nil)
      (pss_one (ps_ret (pe_ix ix_tup (pv 1) (pv 2) (fun _ _ => rfl))))), ?_⟩
    obtain ⟨n, el, hn, hp⟩ := hs.ex
    refine ⟨_, rfl, p, dx, _, rfl, hp, pf_none (by decide +kernel), p, r, dx, bs, l, rfl, hs, hz, fun e0 H' b => ?_, fun x l' e1 v H1 b1 s1 d1 => ?_⟩
    · refine k0 ?_ H' b
      cases l with
      | nil => rfl
      | cons _ _ => cases e0
    · obtain rfl := d1.int_inv
      have el' := pTake_len e1
      subst el'
      have hq1 := b1.tup hq hs.isIns
      refine ⟨_, rfl, _, rfl, a, _, rfl, .inr hq1, _, _, rfl, rfl, _, rfl, ?_⟩
      rw [List.length_map]
      by_cases hlt : x < ws.length
      · refine ifF (decide_eq_false (by omega)) ?_
        refine ⟨_, rfl, _, rfl, a, _, _, .str (ws.getD x Str.empty), rfl, rfl, hq1, at_of (j := x) (by omega) (by rw [List.getElem?_map, List.getD_eq_getElem?_getD, List.getElem?_eq_getElem hlt]; rfl), ?_⟩
        exact k1 x l' (by simp [pChoice, hlt]) _ _ b1 s1 (.str _)
      · refine ifT (decide_eq_true (by omega)) ?_
        exact k0 (by simp [pChoice, hlt]) H1 b1
end
end L2.KR

namespace L2.KR
open PySem PySem.Spec PyProof.Rows K53
section
variable {P : Program} {w : World} {K : PySem.W.Frag} {mg : Str → Option Value} {base : Heap} {C CB : Addr}
theorem But.refl' {p : Addr} {H : Hp} : But p H H := But.refl p H
/-! ### count -/
def shift (num sc : Nat) : Option (Nat × List Nat) → Option (Nat × List Nat)
  | none => none
  | some (n, r) => some (num + sc * n, r)
abbrev sCT : Stmt := inClass (top 34) 3
theorem scCT : FnScope ["self", "number", "scale", "byte"] ["self"] (defScope sCT) := ⟨rfl, rfl, rfl, by decide +kernel, rfl, by decide +kernel, by decide +kernel⟩
theorem ok_ct {f : Addr} {fd : FuncData} (F : Fun K "count" "Bytes.count" sCT f fd) (T : Txt w K mg) (B : TxtB w K mg C CB) (cTK : CalX P w K mg base 1 C "take" (spRd K C CB dI pTake)) : FnOk P w K mg base (L2.CX P w) 2 f fd ["self"] (spRd K C CB dI pCnt) := by
  refine F.okX scCT (fun vs H Q E h => ?_) (fun cdv A outer s H vs Q E hr h => ?_)
  · obtain ⟨p, r, dx, bs, l, rfl, _⟩ := h
    rfl
  · obtain ⟨p, r, dx, bs, l, rfl, hs, hz, k0, k1⟩ := h
    have tk := takes_of (X := cxOf (L2.CX P w) P w K mg base ["self", "number", "scale", "byte"] "Bytes.count" (defScope sCT) f cdv A outer s H E) rfl rfl rfl rfl
    refine ⟨_, pss_cons (ps_set (i := 1) scCT.nd rfl (Or.inl rfl) pe_int) (pss_cons (ps_set (i := 2) scCT.nd rfl (Or.inl rfl) pe_int) (pss_cons (ps_set (i := 3) scCT.nd rfl (Or.inl rfl) pe_int)
      (pss_cons (ps_while (passes_of rfl) (pt_cmpR op_ge (pv 3) pe_int (nomark _))
        (pss_cons (ps_set (i := 3) scCT.nd rfl (Or.inl rfl) (pe_mX0 cTK hr (by decide) (passes_call tk (fun _ _ _ _ h => h)) (pv 0)))
        (pss_cons (ps_set (i := 1) scCT.nd rfl (Or.inl rfl) (pe_op op_add (pv 1) (pe_op op_mul (pe_op op_mod (pv 3) pe_int) (pv 2))))
        (pss_one (ps_set (i := 2) scCT.nd rfl (Or.inl rfl) (pe_op op_mul (pv 2) pe_int))))))
      (pss_one (ps_ret (pv 1)))))), ?_⟩
    refine ⟨fun m σ H' => ∃ (num sc b : Nat) (lc : List Nat), σ = [some (.ref p), some (.int (num : Int)), some (.int (sc : Int)), some (.int (b : Int))] ∧ But p H H' ∧ SrcL C p r dx bs H' lc ∧
        ((b < 128 ∧ m = 0 ∧ pCnt l = some (num, lc)) ∨ (128 ≤ b ∧ m = lc.length + 1 ∧ pCnt l = shift num sc (pCnt lc))),
      ⟨l.length + 1, 0, 1, 128, l, rfl, But.refl p H, hs, .inr ⟨Nat.le_refl _, rfl, by cases pCnt l <;> simp [shift]⟩⟩, ?_⟩
    rintro m σ H1 ⟨num, sc, b, lc, rfl, b1, s1, hc⟩
    obtain ⟨n1, _, _, hp1⟩ := s1.ex
    refine ⟨_, rfl, _, _, rfl, rfl, _, rfl, ?_⟩
    rcases hc with ⟨hb, rfl, hc⟩ | ⟨hb, rfl, hc⟩
    · refine ifF (decide_eq_false (by omega)) ?_
      exact ⟨_, rfl, k1 num lc hc _ H1 b1 s1 (.int _)⟩
    · refine ifT (decide_eq_true (by omega)) ?_
      refine ⟨fun σ' H' => ∃ m', m' < lc.length + 1 ∧ ∃ (num sc b : Nat) (lc' : List Nat), σ' = [some (.ref p), some (.int (num : Int)), some (.int (sc : Int)), some (.int (b : Int))] ∧ But p H H' ∧ SrcL C p r dx bs H' lc' ∧
        ((b < 128 ∧ m' = 0 ∧ pCnt l = some (num, lc')) ∨ (128 ≤ b ∧ m' = lc'.length + 1 ∧ pCnt l = shift num sc (pCnt lc'))), fun σ' H' ⟨m', hm, q⟩ => ⟨m', hm, q⟩, ?_⟩
      refine ⟨_, rfl, p, dx, _, rfl, hp1, pf_none (by decide +kernel), p, r, dx, bs, lc, rfl, s1, hz, fun e0 H' b2 => ?_, fun x l' e1 v H2 b2 s2 d2 => ?_⟩
      · refine k0 ?_ H' (b1.trans b2)
        rw [hc]
        cases lc with
        | nil => rfl
        | cons _ _ => cases e0
      · obtain rfl := d2.int_inv
        have el := pTake_len e1
        subst el
        refine ⟨_, rfl, _, rfl, _, _, rfl, rfl, (by show (0 : Int) < 128; decide), _, rfl, _, _, rfl, rfl, .inl ⟨?_, ?_⟩, _, _, rfl, rfl, ?_⟩
        · have : (0 : Int) ≤ (x : Int) % 128 := by omega
          have e64 : (2 : Int) ^ 64 = 18446744073709551616 := by decide
          rw [e64]
          omega
        · have : (x : Int) % 128 < 128 := by omega
          have e64 : (2 : Int) ^ 64 = 18446744073709551616 := by decide
          rw [e64]
          omega
        refine ⟨_, rfl, _, _, rfl, rfl, .inr ⟨by decide, by decide⟩, ?_⟩
        have e1' : (num : Int) + (x : Int) % 128 * (sc : Int) = ((num + x % 128 * sc : Nat) : Int) := by
          push_cast
          rfl
        have e2' : (sc : Int) * 128 = ((sc * 128 : Nat) : Int) := by
          push_cast
          rfl
        by_cases hx : x < 128
        · refine ⟨0, by omega, num + x % 128 * sc, sc * 128, x, l', ?_, b1.trans b2, s2, .inl ⟨hx, rfl, ?_⟩⟩
          · rw [← e1', ← e2']
            rfl
          · rw [hc]
            have : x % 128 = x := by omega
            rw [this, Nat.mul_comm x sc]
            simp [pCnt, hx, shift]
        · refine ⟨l'.length + 1, by simp, num + x % 128 * sc, sc * 128, x, l', ?_, b1.trans b2, s2, .inr ⟨by omega, rfl, ?_⟩⟩
          · rw [← e1', ← e2']
            rfl
          · rw [hc]
            cases e : pCnt l' with
            | none => simp [pCnt, hx, shift, e]
            | some z =>
              obtain ⟨n, r2⟩ := z
              simp only [pCnt, hx, shift, e, if_false, Option.some.injEq, Prod.mk.injEq, and_true]
              rw [Nat.mul_add, Nat.mul_comm (x % 128) sc, ← Nat.mul_assoc, Nat.add_assoc]
end
end L2.KR

namespace L2.KR
open PySem PySem.Spec PyProof.Rows K53
section
variable {P : Program} {w : World} {K : PySem.W.Frag} {mg : Str → Option Value} {base : Heap} {C CB : Addr}
/-! ### char -/
/-- the table of characters -/
def rgs : List (Nat × Nat) := [(32, 2), (35, 2), (38, 54), (93, 34)]
def rgT (q : Nat × Nat) : List V := [.int ((q.1 : Nat) : Int), .str (SX.S ((List.range q.2).map (· + q.1)))]
def inRg (b : Nat) (q : Nat × Nat) : Bool := decide (q.1 ≤ b) && decide (b < q.1 + q.2)
theorem okChar_rgs (b : Nat) : okChar b = rgs.any (inRg b) := by
  unfold okChar rgs inRg
  simp only [List.any_cons, List.any_nil, Bool.or_false]
  rw [Bool.eq_iff_iff]
  simp only [Bool.and_eq_true, Bool.or_eq_true, decide_eq_true_eq, bne_iff_ne]
  omega
theorem any_take {α : Type} {f : α → Bool} : ∀ {l : List α} {i : Nat} {x : α}, l[i]? = some x → (l.take (i + 1)).any f = ((l.take i).any f || f x) := by
  intro l i x h
  rw [List.take_add_one, h, List.any_append]
  simp
theorem atN_of {α : Type} {xs : List α} {z : Int} {j : Nat} {v : α} (e : z = (j : Int)) (h : xs[j]? = some v) : atI xs z = some v := by
  rw [e]
  exact atI_nat h
abbrev datCh (c : Nat) : PyData := .str (SX.S [c])
abbrev sCR : Stmt := inClass (top 34) 4
theorem scCR : FnScope ["self", "byte", "first", "chars"] ["self"] (defScope sCR) := ⟨rfl, rfl, rfl, by decide +kernel, rfl, by decide +kernel, by decide +kernel⟩
theorem chars_at (T : Txt w K mg) : ∃ a, ∃ xs : List V, mg "CHARS" = some (.ref a) ∧ KT K a xs ∧ xs.length = rgs.length ∧ ∀ (i : Nat) (v : V), xs[i]? = some v → ∃ (t : Addr) (q : Nat × Nat), v = V.ref t ∧ rgs[i]? = some q ∧ KT K t (rgT q) := by
  obtain ⟨a, b, c, d, e, h0, h1, h2, h3, h4, h5⟩ := T.chars
  refine ⟨a, _, h0, h1, rfl, fun i v h => ?_⟩
  match i, h with
  | 0, h => cases h; exact ⟨b, (32, 2), rfl, rfl, h2⟩
  | 1, h => cases h; exact ⟨c, (35, 2), rfl, rfl, h3⟩
  | 2, h => cases h; exact ⟨d, (38, 54), rfl, rfl, h4⟩
  | 3, h => cases h; exact ⟨e, (93, 34), rfl, rfl, h5⟩
  | n + 4, h => cases h
theorem ok_cr {f : Addr} {fd : FuncData} (F : Fun K "char" "Bytes.char" sCR f fd) (T : Txt w K mg) (B : TxtB w K mg C CB) (cTK : CalX P w K mg base 1 C "take" (spRd K C CB dI pTake)) : FnOk P w K mg base (L2.CX P w) 2 f fd ["self"] (spRd K C CB datCh pChar) := by
  obtain ⟨aC, xs, mC, kC, hl, hx⟩ := chars_at T
  refine F.okX scCR (fun vs H Q E h => ?_) (fun cdv A outer s H vs Q E hr h => ?_)
  · obtain ⟨p, r, dx, bs, l, rfl, _⟩ := h
    rfl
  · obtain ⟨p, r, dx, bs, l, rfl, hs, hz, k0, k1⟩ := h
    have tk := takes_of (X := cxOf (L2.CX P w) P w K mg base ["self", "byte", "first", "chars"] "Bytes.char" (defScope sCR) f cdv A outer s H E) rfl rfl rfl rfl
    refine ⟨_, pss_cons (ps_set (i := 1) scCR.nd rfl (Or.inl rfl) (pe_mX0 cTK hr (by decide) (passes_call tk (fun _ _ _ _ h => h)) (pv 0)))
      (pss_cons (ps_for (passes_of rfl) rfl (pi_tup (pe_gref (by rfl) mC)) (pg_tup rfl (pgs_cons (pg_name (i := 2) scCR.nd rfl (Or.inl rfl)) (pgs_cons (pg_name (i := 3) scCR.nd rfl (Or.inl rfl)) pgs_nil)))
        (pss_one (ps_if (pt_chain op_le op_lt (pv 2) (pv 1) (pe_op op_add (pv 2) (pe_callB call_len_str (by rfl) T.len PySem.boot_len (pa_cons (pv 3) pa_nil)))) (pss_one (ps_ret (pe_ix ix_str (pv 3) (pe_op op_sub (pv 1) (pv 2)) (fun _ _ => rfl)))) pss_nil)))
      (pss_one (ps_raise rfl tk (pmk_own PySem.F.excBase_ValueError B.exc B.bad B.kpB (raises_own B.sub B.typ) (by rfl))))), ?_⟩
    obtain ⟨n, _, _, hp⟩ := hs.ex
    refine ⟨_, rfl, p, dx, _, rfl, hp, pf_none (by decide +kernel), p, r, dx, bs, l, rfl, hs, hz, fun e0 H' b => ?_, fun x l' e1 v H1 b1 s1 d1 => ?_⟩
    · refine k0 ?_ H' b
      cases l with
      | nil => rfl
      | cons _ _ => cases e0
    · obtain rfl := d1.int_inv
      have el' := pTake_len e1
      subst el'
      refine ⟨aC, rfl, ⟨_, kC.sq⟩, for_tup (xs := xs) (fun i σ H' => H' = H1 ∧ (rgs.take i).any (inRg x) = false ∧ ∃ v2 v3 : Option V, σ = [some (.ref p), some (.int (x : Int)), v2, v3])
        ⟨rfl, rfl, none, none, rfl⟩ (fun i σ H' _ _ => kC.sq) ?_ ?_⟩
      · rintro i y σ H2 hi ⟨rfl, ha, v2, v3, rfl⟩
        obtain ⟨t, q, rfl, hq, kq⟩ := hx i y hi
        obtain ⟨fst, ln⟩ := q
        have hlen : (SX.S ((List.range ln).map (· + fst))).length = ln := by rw [SX.S_len, List.length_map, List.length_range]
        have hln : ln ≤ 54 := by
          have hm := List.mem_of_getElem? hq
          have key : ∀ z ∈ rgs, z.2 ≤ 54 := by decide
          exact key _ hm
        refine ⟨t, _, rfl, kq.sq, rfl, _, _, rfl, _, _, rfl, rfl, ?_⟩
        refine ⟨_, rfl, _, rfl, _, _, rfl, rfl, decide ((fst : Int) ≤ (x : Int)), rfl, ?_⟩
        by_cases h1 : fst ≤ x
        · refine ifT (decide_eq_true (by omega)) ?_
          refine ⟨_, rfl, _, rfl, _, rfl, small (by rw [hlen]; omega), _, _, rfl, rfl, _, _, rfl, rfl, _, rfl, ?_⟩
          by_cases h2 : x < fst + ln
          · have hin : inRg x (fst, ln) = true := by
              unfold inRg
              rw [decide_eq_true h1, decide_eq_true h2]
              rfl
            have hok : okChar x = true := by
              rw [okChar_rgs]
              exact List.any_eq_true.mpr ⟨_, List.mem_of_getElem? hq, hin⟩
            refine ifT (decide_eq_true (by show (x : Int) < (fst : Int) + (((SX.S ((List.range ln).map (· + fst))).length : Nat) : Int); rw [hlen]; omega)) ?_
            refine ⟨_, rfl, _, rfl, _, rfl, _, _, rfl, rfl, _, _, x, rfl, rfl, small (by show (SX.S ((List.range ln).map (· + fst))).length ≤ 1000000; rw [hlen]; omega), atN_of (j := x - fst) (by show (x : Int) - (fst : Int) = _; omega) ?_, ?_⟩
            · show ((List.range ln).map (· + fst))[x - fst]? = some x
              rw [List.getElem?_map, List.getElem?_range (by omega)]
              show some (x - fst + fst) = some x
              rw [Nat.sub_add_cancel h1]
            · exact k1 x l' (by simp [pChar, hok]) _ H2 b1 s1 (.str _)
          · refine ifF (decide_eq_false (by show ¬ ((x : Int) < (fst : Int) + (((SX.S ((List.range ln).map (· + fst))).length : Nat) : Int)); rw [hlen]; omega)) ?_
            refine ⟨rfl, ?_, _, _, rfl⟩
            rw [any_take hq, ha]
            unfold inRg
            rw [decide_eq_false h2, Bool.and_false]
            rfl
        · refine ifF (decide_eq_false (by omega)) ?_
          refine ⟨false, rfl, ⟨rfl, ?_, _, _, rfl⟩⟩
          rw [any_take hq, ha]
          unfold inRg
          rw [decide_eq_false h1]
          rfl
      · rintro σ H2 ⟨rfl, ha, v2, v3, rfl⟩
        rw [hl, List.take_length, ← okChar_rgs] at ha
        exact k0 (by simp [pChar, ha]) H2 b1
end
end L2.KR

namespace L2.KR
open PySem PySem.Spec PyProof.Rows K53
/-! ### what holds of tuples -/
/-- the tuples stand -/
def KeepT (K : PySem.W.Frag) (H H' : Hp) : Prop := ∀ a xs, SqT K H a xs → SqT K H' a xs
theorem KeepT.trans {K : PySem.W.Frag} {H H1 H2 : Hp} (a : KeepT K H H1) (b : KeepT K H1 H2) : KeepT K H H2 := fun c xs h => b c xs (a c xs h)
theorem KeepT.of_but {K : PySem.W.Frag} {H H' : Hp} {p : Addr} (e : But p H H') (hp : ∃ C dx fs, H p = some (.ins C dx fs)) : KeepT K H H' := fun _ _ h => e.tup h hp
theorem KeepT.of_same {K : PySem.W.Frag} {H H' : Hp} (e : Same H H') : KeepT K H H' := fun _ _ h => e.seqT h
theorem KeepT.of_lst {K : PySem.W.Frag} {H : Hp} {D : Addr} {ys : List V} {o : HO} (hD : H D = some (.lst ys)) : KeepT K H (upd H D o) := fun a xs h => by
  have ne : ∀ {o : HO}, H a = some o → (∀ zs, o ≠ .lst zs) → a ≠ D := fun {o} h1 h2 z => by
    rw [z, hD] at h1
    exact h2 _ (Option.some.inj h1).symm
  rcases h with (h | ⟨o, h⟩) | h
  · exact .inl (.inl (by rw [upd_ne (ne h (fun _ z => by cases z))]; exact h))
  · exact .inl (.inr ⟨o, by rw [upd_ne (ne h (fun _ z => by cases z))]; exact h⟩)
  · exact .inr h
mutual
/-- no lists within -/
def noL : PyData → Bool
  | .list _ => false
  | .dict _ => false
  | .tuple ds => noLs ds
  | _ => true
def noLs : List PyData → Bool
  | [] => true
  | d :: ds => noL d && noLs ds
end
mutual
theorem dp_keep {K : PySem.W.Frag} {H H' : Hp} (e : KeepT K H H') : ∀ {v : V} {d : PyData}, noL d = true → Dp K H v d → Dp K H' v d
  | _, _, _, .non => .non
  | _, _, _, .bl b => .bl b
  | _, _, _, .int i => .int i
  | _, _, _, .str x => .str x
  | _, _, h, .lst _ _ => by cases h
  | _, _, h, .tup s q => .tup (e _ _ s) (dps_keep e h q)
theorem dps_keep {K : PySem.W.Frag} {H H' : Hp} (e : KeepT K H H') : ∀ {vs : List V} {ds : List PyData}, noLs ds = true → DpAll K H vs ds → DpAll K H' vs ds
  | _, _, _, .nil => .nil
  | _ :: _, d :: ds, h, .cons a b => .cons (dp_keep e (Bool.and_eq_true_iff.mp (show (noL d && noLs ds) = true from h)).1 a) (dps_keep e (Bool.and_eq_true_iff.mp (show (noL d && noLs ds) = true from h)).2 b)
end
theorem noLs_map {α : Type} {f : α → PyData} (h : ∀ x, noL (f x) = true) : ∀ l : List α, noLs (l.map f) = true
  | [] => rfl
  | x :: l => by
    show (noL (f x) && noLs (l.map f)) = true
    rw [h x, noLs_map h l]
    rfl
theorem noL_datP (x : Prt) : noL (datP x) = true := by
  cases x with
  | pls l => exact noLs_map (fun n => rfl) l
  | _ => rfl
theorem noL_datR (r : K53.Row) : noL (datR r) = true := by
  show (noL (.str (wd r.1)) && noLs (r.2.map datP)) = true
  rw [noLs_map noL_datP]
  rfl
/-! ### many -/
section
variable {K : PySem.W.Frag} {C CB : Addr}
theorem lc_many {J : It} {n : Nat} {G : Hp → Prop} {Y : Nat → Hp → V → Hp → Prop} (W : Walk J n G Y) {te : TE} {gi : Nat} {σ : St} {H1 : Hp} {D : Addr} {Qd : Hp → Prop} {α : Type} {f : Nat → P α} {dat : α → PyData} {E : XK} {p r dx : Addr} {bs l : List Nat}
    (hnl : ∀ x, noL (dat x) = true) (src : SrcL C p r dx bs H1 l) (nD : H1 D = none) (hz : ∀ i xs li, i < n → pSeq f i l = some (xs, li) → i ≤ 1000000) (hG : ∀ H', But p H1 H' → G H') (hw : ∀ v, wipe ((wipe σ [gi]).set gi (some v)) [gi] = wipe σ [gi])
    (hs : ∀ i y H H' li (R : VK), i < n → But p H1 H → Y i H y H' → H' = H ∧ (SrcL C p r dx bs H li → Out K C CB p r dx bs dat (f i li) H R E → te ((wipe σ [gi]).set gi (some y)) H R))
    (k0 : pSeq f n l = none → ∀ H', But p H1 H' → E (.ref CB) none H')
    (k1 : ∀ xs l', pSeq f n l = some (xs, l') → ∀ vs H', But p H1 H' → H' D = some (.lst vs) → SrcL C p r dx bs H' l' → DpAll K H' vs (xs.map dat) → Qd H') :
    ∃ W : Nat → Nat → Hp → Prop, (∃ m, W 0 m (upd H1 D (.lst []))) ∧ ∀ i m H, W i m H →
      (J.stop i H ∧ Qd H) ∨ (J.go i H ∧ ∃ Nx : Hp → Prop, (∀ H', Nx H' → ∃ m', m' < m ∧ W (i + 1) m' H') ∧ ∀ x H', J.yld i H x H' → gName gi x (wipe σ [gi]) H' fun σ2 H2 => wipe σ2 [gi] = wipe σ [gi] ∧ tYes σ2 H2 fun b H3 =>
        if b = true then te σ2 H3 fun y H4 => ∃ acc, H4 D = some (.lst acc) ∧ acc.length < sizeLine ∧ Nx (upd H4 D (.lst (acc ++ [y]))) else Nx H3) := by
  have pD : D ≠ p := fun e => src.there (by rw [← e]; exact nD)
  refine lc_it W (fun i H => ∃ (xs : List α) (li : List Nat) (vs : List V), pSeq f i l = some (xs, li) ∧ But p H1 H ∧ H D = some (.lst vs) ∧ SrcL C p r dx bs H li ∧ DpAll K H vs (xs.map dat)) ?_ ?_ ?_ ?_
  · exact ⟨[], l, [], rfl, (Same.upd nD).but, upd_same, src.same (Same.upd nD), .nil⟩
  · rintro i H _ ⟨_, _, _, _, b, _⟩
    exact hG H b
  · rintro i y H H' hi ⟨xs, li, vs, e, b, hD, s1, hd⟩ hy
    obtain ⟨rfl, step⟩ := hs i y H H' li (fun y H4 => ∃ acc, H4 D = some (.lst acc) ∧ acc.length < sizeLine ∧ ∃ (xs : List α) (li : List Nat) (vs : List V), pSeq f (i + 1) l = some (xs, li) ∧ But p H1 (upd H4 D (.lst (acc ++ [y]))) ∧ upd H4 D (.lst (acc ++ [y])) D = some (.lst vs) ∧ SrcL C p r dx bs (upd H4 D (.lst (acc ++ [y]))) li ∧ DpAll K (upd H4 D (.lst (acc ++ [y]))) vs (xs.map dat)) hi b hy
    refine ⟨hw y, ?_⟩
    refine step s1 ⟨fun e0 H2 b2 => ?_, fun x l' e1 v H2 b2 s2 d2 => ?_⟩
    · exact k0 (pSeq_stop e e0 hi) H2 (b.trans b2)
    · have hD2 : H2 D = some (.lst vs) := b2 D _ pD hD
      have lvs : vs.length = i := by
        rw [hd.length, List.length_map]
        exact pSeq_length e
      have kt : KeepT K H' (upd H2 D (.lst (vs ++ [v]))) := (KeepT.of_but b2 s1.isIns).trans (.of_lst hD2)
      refine ⟨vs, hD2, smallLt (by rw [lvs]; exact hz i xs li hi e), xs ++ [x], l', vs ++ [v], by rw [pSeq_succ e, e1], ?_, upd_same, ?_, ?_⟩
      · intro c o nc hc
        rw [upd_ne (ne_of_none hc nD)]
        exact b2 c o nc (b c o nc hc)
      · obtain ⟨n2, h1, h2, h3⟩ := s2.ex
        exact ⟨⟨n2, h1, h2, by rw [upd_ne (Ne.symm pD)]; exact h3⟩, by rw [upd_ne (fun z => by have := src.row; rw [z, nD] at this; cases this)]; exact s2.row⟩
      · rw [List.map_append]
        exact (dps_keep kt (noLs_map hnl xs) hd).snoc (dp_keep (.of_lst hD2) (hnl x) d2)
  · rintro H ⟨xs, li, vs, e, b, hD, s1, hd⟩
    exact k1 xs li e vs H b hD s1 hd
end
end L2.KR

namespace L2.KR
open PySem PySem.Spec PyProof.Rows K53
theorem join_ones (t : List Nat) : Txt.join (("" : Str)) (t.map fun c => SX.S [c]) = SX.S t := by
  have e0 : ("" : Str) = SX.S [] := by decide +kernel
  have e1 : (t.map fun c => SX.S [c]) = (t.map fun c => [c]).map SX.S := by rw [List.map_map]; rfl
  rw [e0, e1, SX.join_S]
  have key : ∀ t : List Nat, TL.joinL [] (t.map fun c => [c]) = t := by
    intro t
    induction t with
    | nil => rfl
    | cons a t ih =>
      cases t with
      | nil => rfl
      | cons b t =>
        show [a] ++ ([] ++ TL.joinL [] ((b :: t).map fun c => [c])) = _
        rw [ih]
        rfl
  rw [key]
theorem sum_ones : ∀ t : List Nat, ((t.map fun c => SX.S [c]).map (·.length)).sum = t.length
  | [] => rfl
  | a :: t => by
    have ih := sum_ones t
    simp only [List.map_cons, List.sum_cons, List.length_cons, ih]
    show (SX.S [a]).length + t.length = t.length + 1
    rw [SX.S_len]
    simp [Nat.add_comm]
theorem dps_strs {K : PySem.W.Frag} {H : Hp} : ∀ {t : List Nat} {vs : List V}, DpAll K H vs (t.map datCh) → vs = (t.map fun c => SX.S [c]).map V.str
  | [], _, .nil => rfl
  | c :: t, _, .cons h q => by
    have e := Dp.str_inv h
    have e2 := dps_strs (t := t) q
    subst e e2
    rfl
theorem pVal_s0 {l l1 l2 : List Nat} {m : Nat} (h1 : pChoice 2 l = some (1, l1)) (h2 : pCnt l1 = some (m, l2)) (h3 : pSeq (fun _ => pChar) m l2 = none) : pVal l = none := by simp only [pVal, h1, h2, h3]
theorem pVal_s1 {l l1 l2 l3 s : List Nat} {m : Nat} (h1 : pChoice 2 l = some (1, l1)) (h2 : pCnt l1 = some (m, l2)) (h3 : pSeq (fun _ => pChar) m l2 = some (s, l3)) : pVal l = some (.txt s, l3) := by simp only [pVal, h1, h2, h3]
theorem pVal_i0 {l l1 : List Nat} (h1 : pChoice 2 l = some (0, l1)) (h3 : pSeq (fun _ => pTake) 8 l1 = none) : pVal l = none := by simp only [pVal, h1, h3]
theorem pVal_i1 {l l1 l3 s : List Nat} (h1 : pChoice 2 l = some (0, l1)) (h3 : pSeq (fun _ => pTake) 8 l1 = some (s, l3)) : pVal l = some (.val (signed (le s)), l3) := by simp only [pVal, h1, h3]
theorem pCnt_one {l l' : List Nat} {x : Nat} (h : pCnt l = some (x, l')) : 1 + l'.length ≤ l.length := by
  have a := pCnt_len h
  have b := cb_pos x
  omega
theorem pTake_one {l l' : List Nat} {x : Nat} (h : pTake l = some (x, l')) : 1 + l'.length ≤ l.length := by
  rw [pTake_len h]
  simp [Nat.add_comm]
theorem pChar_one {l l' : List Nat} {x : Nat} (h : pChar l = some (x, l')) : 1 + l'.length ≤ l.length := by
  rw [(pChar_inv h).1]
  simp [Nat.add_comm]
section
variable {P : Program} {w : World} {K : PySem.W.Frag} {mg : Str → Option Value} {base : Heap} {C CB : Addr}
abbrev sVL : Stmt := inClass (top 34) 5
theorem scVL : FnScope ["self", "kind", "many", "number", "turn", "_"] ["self"] (defScope sVL) := ⟨rfl, rfl, rfl, by decide +kernel, rfl, by decide +kernel, by decide +kernel⟩
theorem ok_vl {f : Addr} {fd : FuncData} (F : Fun K "value" "Bytes.value" sVL f fd) (T : Txt w K mg) (B : TxtB w K mg C CB) (cTK : CalX P w K mg base 1 C "take" (spRd K C CB dI pTake)) (cCH : CalX P w K mg base 2 C "choice" (spCH K C CB)) (cCT : CalX P w K mg base 2 C "count" (spRd K C CB dI pCnt)) (cCR : CalX P w K mg base 2 C "char" (spRd K C CB datCh pChar)) : FnOk P w K mg base (L2.CX P w) 3 f fd ["self"] (spRd K C CB datP pVal) := by
  obtain ⟨aK, mK, kK⟩ := T.kinds
  refine F.okX scVL (fun vs H Q E h => ?_) (fun cdv A outer s H vs Q E hr h => ?_)
  · obtain ⟨p, r, dx, bs, l, rfl, _⟩ := h
    rfl
  · obtain ⟨p, r, dx, bs, l, rfl, hs, hz, k0, k1⟩ := h
    have hr1 : Room 1 _ := hr.mono (by decide)
    have tk := takes_of (X := cxOf (L2.CX P w) P w K mg base ["self", "kind", "many", "number", "turn", "_"] "Bytes.value" (defScope sVL) f cdv A outer s H E) rfl rfl rfl rfl
    have ps := passes_call tk (E := E) (fun _ _ _ _ h => h)
    refine ⟨_, pss_cons (ps_set (i := 1) scVL.nd rfl (Or.inl rfl) (pe_mX cCH hr (by decide) ps (pv 0) (pa_cons (pe_gref (by rfl) mK) pa_nil)))
      (pss_cons (ps_if (pt_cmpR op_eq (pv 1) pe_str (nomark _))
        (pss_cons (ps_set (i := 2) scVL.nd rfl (Or.inl rfl) (pe_mX0 cCT hr (by decide) ps (pv 0)))
        (pss_one (ps_ret (pe_tup (pa_cons (pv 1) (pa_cons (pe_bm PySem.F.plainAttrs_str PySem.F.slot_str_join PySem.F.type_str_join mt_join pe_str (pa_cons
          (pe_lcX (W := fun cls d _ H => E cls d H) (E := E) (own := [("_", 5)]) (g := gName 5) (tt := tYes) rfl rfl tk (fun _ _ _ _ h => h) rfl scVL.nd (pi_rangeA (by rfl) T.range (pa_cons (pv 2) pa_nil)) (blkOk_by (N := ["self", "kind", "many", "number", "turn", "_"]) (sc := defScope sVL) (by decide +kernel))
            (fun _ _ _ _ _ => pg_name (i := 5) scVL.nd rfl (Or.inl rfl)) (fun _ _ _ _ _ => pts_nil) (fun _ _ _ _ _ hx => pe_mX0 cCR hr (by decide) hx (pv 0))) pa_nil)) pa_nil)))))) pss_nil)
      (pss_cons (ps_set (i := 3) scVL.nd rfl (Or.inl rfl) pe_int)
      (pss_cons (ps_for (passes_of rfl) rfl (pi_range1 (by rfl) T.range (pa_cons pe_int pa_nil)) (pg_name (i := 4) scVL.nd rfl (Or.inl rfl))
        (pss_one (ps_set (i := 3) scVL.nd rfl (Or.inl rfl) (pe_op op_add (pv 3) (pe_op op_mul (pe_mX0 cTK hr1 (by decide) ps (pv 0)) (pe_op op_pow pe_int (pv 4)))))))
      (pss_cons (ps_if (pt_cmpR op_ge (pv 3) (C8.pe_gc (by rfl) T.half) (nomark _)) (pss_one (ps_set (i := 3) scVL.nd rfl (Or.inl rfl) (pe_op op_sub (pv 3) (C8.pe_gc (by rfl) T.rng)))) pss_nil)
      (pss_one (ps_ret (pe_tup (pa_cons (pv 1) (pa_cons (pv 3) pa_nil))))))))), ?_⟩
    obtain ⟨n0, _, _, hp⟩ := hs.ex
    refine ⟨_, rfl, p, dx, _, rfl, hp, pf_none (by decide +kernel), p, r, dx, bs, l, aK, kns, rfl, kK.sq, hs, hz, fun e0 H' b => ?_, fun x l1 e1 v H1 b1 s1 d1 => ?_⟩
    · refine k0 ?_ H' b
      show pVal l = none
      unfold pVal
      have e0' : pChoice 2 l = none := e0
      rw [e0']
    · obtain rfl := d1.str_inv
      have e1' : pChoice 2 l = some (x, l1) := e1
      have hx2 : x < 2 := (pChoice_inv e1').2
      obtain ⟨n1, _, _, hp1⟩ := s1.ex
      match x, hx2, e1' with
      | 1, _, e1' =>
        have ek : kns.getD 1 Str.empty = ("str" : Str) := by decide +kernel
        rw [ek]
        refine ⟨_, rfl, rfl, _, rfl, ifT (decide_eq_true rfl) ?_⟩
        refine ⟨_, rfl, p, dx, _, rfl, hp1, pf_none (by decide +kernel), p, r, dx, bs, l1, rfl, s1, hz, fun e0 H' b => ?_, fun m l2 e2 v H2 b2 s2 d2 => ?_⟩
        · refine k0 ?_ H' (b1.trans b)
          simp only [pVal, e1', e0]
        · obtain rfl := d2.int_inv
          refine ⟨_, rfl, rfl, _, rfl, (m : Int), rfl, fun D nD => ?_⟩
          refine lc_many (K := K) (CB := CB) (f := fun _ => pChar) (dat := datCh) (l := l2) (E := E) walk_range (fun _ => rfl) s2 nD (fun i xs li _ e => ?_) (fun _ _ => trivial) (fun _ => rfl) ?_ ?_ ?_
          · have := pSeq_many (f := fun _ => pChar) (fun _ _ _ _ q => pChar_one q) e
            have := s2.le
            omega
          · rintro i y H3 H3' li R hi b3 ⟨rfl, rfl⟩
            refine ⟨rfl, fun s3 o3 => ?_⟩
            obtain ⟨n3, _, _, hp3⟩ := s3.ex
            exact ⟨_, rfl, p, dx, _, rfl, hp3, pf_none (by decide +kernel), p, r, dx, bs, li, rfl, s3, hz, o3⟩
          · intro e0 H' b
            refine k0 ?_ H' (b1.trans (b2.trans b))
            exact pVal_s0 e1' e2 e0
          · intro xs l' e3 vs H3 b3 hD s3 hd
            have e3' : pSeq (fun _ => pChar) m l2 = some (xs, l') := e3
            have evs := dps_strs hd
            subst evs
            have hle : xs.length ≤ 1000000 := by
              have q1 := pSeq_many (f := fun _ => pChar) (fun _ _ _ _ q => pChar_one q) e3
              have q2 := pSeq_length e3
              have := s2.le
              omega
            refine ⟨("" : Str), D, _, rfl, rfl, .inl (SqL.of hD), ?_, ?_⟩
            · rw [sum_ones]
              have : (("" : Str)).length = 0 := by decide +kernel
              rw [this]
              omega
            · rw [join_ones]
              refine ⟨by show 2 ≤ sizeLine; decide, fun q nq => ?_⟩
              have s4 : Same H3 (upd H3 q (.tup [.str "str", .str (SX.S xs)])) := Same.upd nq
              refine k1 (.txt xs) l' (pVal_s1 e1' e2 e3') _ _ (b1.trans (b2.trans (b3.trans s4.but))) (s3.same s4) ?_
              exact .tup (SqT.of upd_same) (.cons (.str _) (.cons (.str _) .nil))
      | 0, _, e1' =>
        have ek : kns.getD 0 Str.empty = ("int" : Str) := by decide +kernel
        rw [ek]
        refine ⟨_, rfl, rfl, _, rfl, ifF (decide_eq_false (by intro e; exact absurd (V.str.inj e) (by decide +kernel))) ?_⟩
        refine ⟨8, rfl, by decide, by decide, for_range (n := 8) (fun i σ H' => ∃ (xs li : List Nat) (v4 : Option V), pSeq (fun _ => pTake) i l1 = some (xs, li) ∧ σ = [some (.ref p), some (.str "int"), none, some (.int ((le xs : Nat) : Int)), v4, none] ∧ But p H1 H' ∧ SrcL C p r dx bs H' li)
          ⟨[], l1, none, rfl, rfl, But.refl p H1, s1⟩ ?_ ?_⟩
        · rintro i σ H2 hi ⟨xs, li, v4, e2, rfl, b2, s2⟩
          obtain ⟨n2, _, _, hp2⟩ := s2.ex
          refine ⟨_, rfl, _, rfl, p, dx, _, rfl, hp2, pf_none (by decide +kernel), p, r, dx, bs, li, rfl, s2, hz, fun e0 H' b => ?_, fun x l' e3 v H3 b3 s3 d3 => ?_⟩
          · exact k0 (pVal_i0 e1' (pSeq_stop (f := fun _ => pTake) e2 e0 hi)) H' (b1.trans (b2.trans b))
          · obtain rfl := d3.int_inv
            have e0' : (0 : Int) + (i : Int) = (i : Int) := by omega
            refine ⟨_, rfl, _, _, rfl, rfl, ⟨by omega, by omega, by decide⟩, _, _, rfl, rfl, .inr ?_, _, _, rfl, rfl, ?_⟩
            · show -(2 ^ 64) < (256 : Int) ^ ((0 : Int) + (i : Int)).toNat ∧ (256 : Int) ^ ((0 : Int) + (i : Int)).toNat < 2 ^ 64
              rw [e0', Int.toNat_natCast]
              have key : ∀ i, i < 8 → -(2 ^ 64) < (256 : Int) ^ i ∧ (256 : Int) ^ i < 2 ^ 64 := by decide
              exact key i hi
            · have lx : xs.length = i := pSeq_length e2
              have ev : ((le xs : Nat) : Int) + (x : Int) * (256 : Int) ^ ((0 : Int) + (i : Int)).toNat = ((le (xs ++ [x]) : Nat) : Int) := by
                rw [e0', Int.toNat_natCast, le_snoc, lx]
                push_cast
                rfl
              refine ⟨xs ++ [x], l', some (.int (0 + (i : Int))), by rw [pSeq_succ e2, e3], ?_, b2.trans b3, s3⟩
              rw [← ev]
              rfl
        · rintro σ H2 ⟨xs, li, v4, e2, rfl, b2, s2⟩
          refine ⟨_, rfl, _, _, rfl, rfl, _, rfl, ?_⟩
          have n63 : (2 : Nat) ^ 63 = 9223372036854775808 := by decide
          have i64 : (2 : Int) ^ 64 = 18446744073709551616 := by decide
          by_cases hh : 9223372036854775808 ≤ le xs
          · refine ifT (decide_eq_true (by show (9223372036854775808 : Int) ≤ ((le xs : Nat) : Int); omega)) ?_
            refine ⟨_, rfl, _, _, rfl, rfl, ?_⟩
            refine ⟨_, rfl, _, rfl, by show 2 ≤ sizeLine; decide, fun q nq => ?_⟩
            have s4 : Same H2 (upd H2 q (.tup [.str "int", .int (((le xs : Nat) : Int) - 18446744073709551616)])) := Same.upd nq
            have es : signed (le xs) = ((le xs : Nat) : Int) - 18446744073709551616 := by
              unfold signed
              rw [n63, if_pos hh, i64]
            refine k1 (.val (signed (le xs))) li (pVal_i1 e1' e2) _ _ (b1.trans (b2.trans s4.but)) (s2.same s4) ?_
            rw [es]
            exact .tup (SqT.of upd_same) (.cons (.str _) (.cons (.int _) .nil))
          · refine ifF (decide_eq_false (by show ¬ ((9223372036854775808 : Int) ≤ ((le xs : Nat) : Int)); omega)) ?_
            refine ⟨_, rfl, _, rfl, by show 2 ≤ sizeLine; decide, fun q nq => ?_⟩
            have s4 : Same H2 (upd H2 q (.tup [.str "int", .int ((le xs : Nat) : Int)])) := Same.upd nq
            have es : signed (le xs) = ((le xs : Nat) : Int) := by
              unfold signed
              rw [n63, if_neg hh]
            refine k1 (.val (signed (le xs))) li (pVal_i1 e1' e2) _ _ (b1.trans (b2.trans s4.but)) (s2.same s4) ?_
            rw [es]
            exact .tup (SqT.of upd_same) (.cons (.str _) (.cons (.int _) .nil))
end
end L2.KR

namespace L2.KR
open PySem PySem.Spec PyProof.Rows K53
theorem is_maybe : ∀ s : Srt, decide (V.str (nm s) = V.str "maybe") = decide (s = .mb) := by
  intro s; cases s <;> decide +kernel
def spPT (K : PySem.W.Frag) (C CB : Addr) : Sp := fun vs H Q E => ∃ p r dx bs l s, vs = [.ref p, .str (nm s)] ∧ SrcL C p r dx bs H l ∧ bs.length ≤ 1000000 ∧ Out K C CB p r dx bs datP (pPart s l) H Q E
theorem srt_cases (s : Srt) : (isReg s = true ∧ pPart s = pReg (decide (s = .mb))) ∨ (isReg s = false ∧ isCnt s = true ∧ pPart s = pCntP) ∨ s = .value ∨
    (isReg s = false ∧ isCnt s = false ∧ s ≠ .value ∧ ∃ c, c < 4 ∧ nm s = cn c ∧ pPart s = pWrd c) ∨ (isReg s = false ∧ isCnt s = false ∧ s ≠ .value ∧ (s = .keys ∨ s = .members) ∧ pPart s = pPls) := by
  cases s <;> first
    | exact .inl ⟨rfl, rfl⟩
    | exact .inr (.inl ⟨rfl, rfl, rfl⟩)
    | exact .inr (.inr (.inl rfl))
    | exact .inr (.inr (.inr (.inl ⟨rfl, rfl, by decide, 0, by decide, rfl, rfl⟩)))
    | exact .inr (.inr (.inr (.inl ⟨rfl, rfl, by decide, 1, by decide, rfl, rfl⟩)))
    | exact .inr (.inr (.inr (.inl ⟨rfl, rfl, by decide, 2, by decide, rfl, rfl⟩)))
    | exact .inr (.inr (.inr (.inl ⟨rfl, rfl, by decide, 3, by decide, rfl, rfl⟩)))
    | exact .inr (.inr (.inr (.inr ⟨rfl, rfl, by decide, .inl rfl, rfl⟩)))
    | exact .inr (.inr (.inr (.inr ⟨rfl, rfl, by decide, .inr rfl, rfl⟩)))
theorem dps_nats {K : PySem.W.Frag} {H : Hp} {l : List Nat} {vs : List V} (h : DpAll K H vs (l.map dI)) : vs = nats l := h.nats_inv
theorem pPls_0 {l l1 : List Nat} {m : Nat} (h1 : pCnt l = some (m, l1)) (h2 : pSeq (fun _ => pCnt) m l1 = none) : pPls l = none := by simp only [pPls, h1, h2]
theorem pPls_1 {l l1 l2 s : List Nat} {m : Nat} (h1 : pCnt l = some (m, l1)) (h2 : pSeq (fun _ => pCnt) m l1 = some (s, l2)) : pPls l = some (.pls s, l2) := by simp only [pPls, h1, h2]
section
variable {P : Program} {w : World} {K : PySem.W.Frag} {mg : Str → Option Value} {base : Heap} {C CB : Addr}
abbrev sPT : Stmt := inClass (top 34) 6
theorem scPT : FnScope ["self", "sort", "byte", "many", "_"] ["self", "sort"] (defScope sPT) := ⟨rfl, rfl, rfl, by decide +kernel, rfl, by decide +kernel, by decide +kernel⟩
theorem ok_pt {f : Addr} {fd : FuncData} (F : Fun K "part" "Bytes.part" sPT f fd) (T : Txt w K mg) (B : TxtB w K mg C CB) (cTK : CalX P w K mg base 1 C "take" (spRd K C CB dI pTake)) (cCH : CalX P w K mg base 2 C "choice" (spCH K C CB)) (cCT : CalX P w K mg base 2 C "count" (spRd K C CB dI pCnt)) (cVL : CalX P w K mg base 3 C "value" (spRd K C CB datP pVal)) : FnOk P w K mg base (L2.CX P w) 4 f fd ["self", "sort"] (spPT K C CB) := by
  obtain ⟨aR, mR, kR⟩ := T.regp
  obtain ⟨aN, mN, kN⟩ := T.cnts
  obtain ⟨aC, es, nn, mC, kC, hC, hk, hm⟩ := T.chs
  refine F.okX scPT (fun vs H Q E h => ?_) (fun cdv A outer s0 H vs Q E hr h => ?_)
  · obtain ⟨p, r, dx, bs, l, s, rfl, _⟩ := h
    rfl
  · obtain ⟨p, r, dx, bs, l, s, rfl, hs, hz, k0, k1⟩ := h
    have hr1 : Room 1 _ := hr.mono (by decide)
    have hr2 : Room 2 _ := hr.mono (by decide)
    have tk := takes_of (X := cxOf (L2.CX P w) P w K mg base ["self", "sort", "byte", "many", "_"] "Bytes.part" (defScope sPT) f cdv A outer s0 H E) rfl rfl rfl rfl
    have ps := passes_call tk (E := E) (fun _ _ _ _ h => h)
    refine ⟨_, pss_cons (ps_if (pt_cmpR op_in_seq (pv 1) (pe_gref (by rfl) mR) (by rfl))
        (pss_cons (ps_set (i := 2) scPT.nd rfl (Or.inl rfl) (pe_mX0 cTK hr1 (by decide) ps (pv 0)))
        (pss_cons (ps_if (PW.pt (pw_and (pt_cmpR op_eq (pv 1) pe_str (nomark _)) (pw_and1 (pt_cmpR op_eq (pv 2) pe_int (nomark _))))) (pss_one (ps_ret (pe_un un_neg pe_int))) pss_nil)
        (pss_one (ps_ret (pv 2))))) pss_nil)
      (pss_cons (ps_if (pt_cmpR op_in_seq (pv 1) (pe_gref (by rfl) mN) (by rfl)) (pss_one (ps_ret (pe_mX0 cCT hr2 (by decide) ps (pv 0)))) pss_nil)
      (pss_cons (ps_if (pt_cmpR op_eq (pv 1) pe_str (nomark _)) (pss_one (ps_ret (pe_mX0 cVL hr (by decide) ps (pv 0)))) pss_nil)
      (pss_cons (ps_if (pt_cmpR (op_in_kd kC) (pv 1) (pe_gref (by rfl) mC) (by rfl)) (pss_one (ps_ret (pe_mX cCH hr2 (by decide) ps (pv 0) (pa_cons (pe_ix ix_kdict (pe_gref (by rfl) mC) (pv 1) (fun _ _ => rfl)) pa_nil)))) pss_nil)
      (pss_cons (ps_set (i := 3) scPT.nd rfl (Or.inl rfl) (pe_mX0 cCT hr2 (by decide) ps (pv 0)))
      (pss_one (ps_ret (pe_tupleOf (by rfl) T.tup
          (pe_lcX (W := fun cls d _ H => E cls d H) (E := E) (own := [("_", 4)]) (g := gName 4) (tt := tYes) rfl rfl tk (fun _ _ _ _ h => h) rfl scPT.nd (pi_rangeA (by rfl) T.range (pa_cons (pv 3) pa_nil)) (blkOk_by (N := ["self", "sort", "byte", "many", "_"]) (sc := defScope sPT) (by decide +kernel))
            (fun _ _ _ _ _ => pg_name (i := 4) scPT.nd rfl (Or.inl rfl)) (fun _ _ _ _ _ => pts_nil) (fun _ _ _ _ _ hx => pe_mX0 cCT hr2 (by decide) hx (pv 0)))))))))), ?_⟩
    obtain ⟨n0, _, _, hp⟩ := hs.ex
    refine ⟨_, rfl, aR, _, rfl, .inr kR.sq, rfl, by decide +kernel, _, rfl, ?_⟩
    have eR := in_regs s
    rcases srt_cases s with ⟨h1, hP⟩ | ⟨h1, h2, hP⟩ | hv | ⟨h1, h2, h3, c, hc4, hcn, hP⟩ | ⟨h1, h2, h3, h4, hP⟩
    · refine ifT (by show inV _ _ = true; rw [eR, h1]) ?_
      rw [hP] at k0 k1
      refine ⟨_, rfl, p, dx, _, rfl, hp, pf_none (by decide +kernel), p, r, dx, bs, l, rfl, hs, hz, fun e0 H' b => ?_, fun x l1 e1 v H1 b1 s1 d1 => ?_⟩
      · refine k0 ?_ H' b
        cases l with
        | nil => rfl
        | cons _ _ => cases e0
      · obtain rfl := d1.int_inv
        have el := pTake_len e1
        subst el
        have em := is_maybe s
        by_cases hmb : s = .mb
        · refine ⟨_, rfl, rfl, true, congrArg V.bl (by rw [em]; exact decide_eq_true hmb), ?_⟩
          by_cases hx : x = 255
          · refine ⟨_, rfl, rfl, true, congrArg V.bl (by rw [hx]; exact decide_eq_true rfl), ?_⟩
            refine ⟨_, rfl, ?_⟩
            refine k1 (.reg (-1)) l1 ?_ _ _ b1 s1 (.int _)
            simp [pReg, hmb, hx]
          · refine ⟨_, rfl, rfl, false, congrArg V.bl (decide_eq_false (fun e => hx (by have := V.int.inj e; omega))), ?_⟩
            refine ⟨_, rfl, ?_⟩
            refine k1 (.reg (x : Int)) l1 ?_ _ _ b1 s1 (.int _)
            simp [pReg, hx]
        · refine ⟨_, rfl, rfl, false, congrArg V.bl (by rw [em]; exact decide_eq_false hmb), ?_⟩
          refine ⟨_, rfl, ?_⟩
          refine k1 (.reg (x : Int)) l1 ?_ _ _ b1 s1 (.int _)
          simp [pReg, hmb]
    · refine ifF (by show inV _ _ = false; rw [eR, h1]) ?_
      rw [hP] at k0 k1
      refine ⟨_, rfl, aN, _, rfl, .inr kN.sq, rfl, by decide +kernel, _, rfl, ?_⟩
      refine ifT (by show inV _ _ = true; rw [in_cnts, h2]) ?_
      refine ⟨_, rfl, p, dx, _, rfl, hp, pf_none (by decide +kernel), p, r, dx, bs, l, rfl, hs, hz, fun e0 H' b => ?_, fun x l1 e1 v H1 b1 s1 d1 => ?_⟩
      · exact k0 (by simp only [pCntP, e0]) H' b
      · exact k1 (.cnt x) l1 (by simp only [pCntP, e1]) v H1 b1 s1 d1
    · subst hv
      refine ifF (by show inV _ _ = false; rw [eR]; rfl) ?_
      refine ⟨_, rfl, aN, _, rfl, .inr kN.sq, rfl, by decide +kernel, _, rfl, ?_⟩
      refine ifF (by show inV _ _ = false; rw [in_cnts]; rfl) ?_
      refine ⟨_, rfl, rfl, _, rfl, ifT (decide_eq_true rfl) ?_⟩
      exact ⟨_, rfl, p, dx, _, rfl, hp, pf_none (by decide +kernel), p, r, dx, bs, l, rfl, hs, hz, k0, k1⟩
    · obtain ⟨t, e1, kt⟩ := hC c hc4
      rw [hP] at k0 k1
      refine ifF (by show inV _ _ = false; rw [eR, h1]) ?_
      refine ⟨_, rfl, aN, _, rfl, .inr kN.sq, rfl, by decide +kernel, _, rfl, ?_⟩
      refine ifF (by show inV _ _ = false; rw [in_cnts, h2]) ?_
      refine ⟨_, rfl, rfl, _, rfl, ifF (by rw [is_value]; exact decide_eq_false h3) ?_⟩
      refine ⟨_, rfl, _, _, rfl, rfl, by rw [hcn]; exact e1, _, rfl, ifT rfl ?_⟩
      refine ⟨_, rfl, p, dx, _, rfl, hp, pf_none (by decide +kernel), _, rfl, aC, _, .ref t, rfl, rfl, ⟨es, nn, _, kC.at_, kC.lit, by rw [hcn]; exact e1, rfl⟩, p, r, dx, bs, l, t, cws c, rfl, kt.sq, hs, hz, fun e0 H' b => ?_, fun x l1 e1 v H1 b1 s1 d1 => ?_⟩
      · rw [cws_len c hc4] at e0
        exact k0 (by simp only [pWrd, e0]) H' b
      · rw [cws_len c hc4] at e1
        exact k1 (.wrd c x) l1 (by simp only [pWrd, e1]) v H1 b1 s1 d1
    · have h5 : PySem.W.nsIn K aC (nm s) = some none := by
        rcases h4 with rfl | rfl
        · exact hk
        · exact hm
      rw [hP] at k0 k1
      refine ifF (by show inV _ _ = false; rw [eR, h1]) ?_
      refine ⟨_, rfl, aN, _, rfl, .inr kN.sq, rfl, by decide +kernel, _, rfl, ?_⟩
      refine ifF (by show inV _ _ = false; rw [in_cnts, h2]) ?_
      refine ⟨_, rfl, rfl, _, rfl, ifF (by rw [is_value]; exact decide_eq_false h3) ?_⟩
      refine ⟨_, rfl, _, _, rfl, rfl, h5, _, rfl, ifF rfl ?_⟩
      refine ⟨_, rfl, p, dx, _, rfl, hp, pf_none (by decide +kernel), p, r, dx, bs, l, rfl, hs, hz, fun e0 H' b => ?_, fun m l1 e1 v H1 b1 s1 d1 => ?_⟩
      · exact k0 (by simp only [pPls, e0]) H' b
      · obtain rfl := d1.int_inv
        refine ⟨_, rfl, (m : Int), rfl, fun D nD => ?_⟩
        refine lc_many (K := K) (CB := CB) (f := fun _ => pCnt) (dat := dI) (l := l1) (E := E) walk_range (fun _ => rfl) s1 nD (fun i xs li _ e => ?_) (fun _ _ => trivial) (fun _ => rfl) ?_ ?_ ?_
        · have := pSeq_many (f := fun _ => pCnt) (fun _ _ _ _ q => pCnt_one q) e
          have := s1.le
          omega
        · rintro i y H3 H3' li R hi b3 ⟨rfl, rfl⟩
          refine ⟨rfl, fun s3 o3 => ?_⟩
          obtain ⟨n3, _, _, hp3⟩ := s3.ex
          exact ⟨_, rfl, p, dx, _, rfl, hp3, pf_none (by decide +kernel), p, r, dx, bs, li, rfl, s3, hz, o3⟩
        · intro e0 H' b
          exact k0 (pPls_0 e1 e0) H' (b1.trans b)
        · intro xs l' e3 vs H3 b3 hD s3 hd
          have evs := dps_nats hd
          subst evs
          refine .inl ⟨D, _, rfl, SqL.of hD, fun q nq => ?_⟩
          have s4 : Same H3 (upd H3 q (.tup (nats xs))) := Same.upd nq
          refine k1 (.pls xs) l' (pPls_1 e1 e3) _ _ (b1.trans (b3.trans s4.but)) (s3.same s4) ?_
          exact .tup (SqT.of upd_same) (dp_nats xs)
end
end L2.KR

namespace L2.KR
open PySem PySem.Spec PyProof.Rows K53
theorem pRow_0 {l l1 : List Nat} {j : Nat} (h1 : pChoice 32 l = some (j, l1)) (h2 : pSeq (fun i => pPart ((srt j).getD i .d)) (srt j).length l1 = none) : pRow l = none := by simp only [pRow, h1, pSrts, h2]
theorem pRow_1 {l l1 l2 : List Nat} {j : Nat} {ps : List Prt} (h1 : pChoice 32 l = some (j, l1)) (h2 : pSeq (fun i => pPart ((srt j).getD i .d)) (srt j).length l1 = some (ps, l2)) : pRow l = some ((j, ps), l2) := by simp only [pRow, h1, pSrts, h2]
theorem pRow_one {l l' : List Nat} {x : K53.Row} (h : pRow l = some (x, l')) : 1 + l'.length ≤ l.length := by
  have a := pRow_len' h
  have b : 1 ≤ (encR x).length := by show 1 ≤ (x.1 :: x.2.flatMap encP).length; rw [List.length_cons]; omega
  omega
theorem pChoice_one {m : Nat} {l l' : List Nat} {x : Nat} (h : pChoice m l = some (x, l')) : 1 + l'.length ≤ l.length := by
  rw [(pChoice_inv h).1]
  simp [Nat.add_comm]
theorem rd_0 {l l1 : List Nat} (h : pCode l = none) : rd l = none := by simp only [rd, h]
theorem pCode_0 {l : List Nat} (h1 : pCnt l = none) : pCode l = none := by simp only [pCode, h1]
theorem pCode_1 {l l1 : List Nat} {n : Nat} (h1 : pCnt l = some (n, l1)) (h2 : pSeq (fun _ => pChoice 2) n l1 = none) : pCode l = none := by simp only [pCode, h1, h2]
theorem pCode_2 {l l1 l2 ks : List Nat} {n : Nat} (h1 : pCnt l = some (n, l1)) (h2 : pSeq (fun _ => pChoice 2) n l1 = some (ks, l2)) (h3 : pCnt l2 = none) : pCode l = none := by simp only [pCode, h1, h2, h3]
theorem pCode_3 {l l1 l2 l3 ks : List Nat} {n m : Nat} (h1 : pCnt l = some (n, l1)) (h2 : pSeq (fun _ => pChoice 2) n l1 = some (ks, l2)) (h3 : pCnt l2 = some (m, l3)) (h4 : pSeq (fun _ => pRow) m l3 = none) : pCode l = none := by simp only [pCode, h1, h2, h3, h4]
theorem pCode_4 {l l1 l2 l3 l4 ks : List Nat} {n m : Nat} {rs : List K53.Row} (h1 : pCnt l = some (n, l1)) (h2 : pSeq (fun _ => pChoice 2) n l1 = some (ks, l2)) (h3 : pCnt l2 = some (m, l3)) (h4 : pSeq (fun _ => pRow) m l3 = some (rs, l4)) : pCode l = some ((ks, rs), l4) := by simp only [pCode, h1, h2, h3, h4]
section
variable {P : Program} {w : World} {K : PySem.W.Frag} {mg : Str → Option Value} {base : Heap} {C CB : Addr}
abbrev sRW : Stmt := inClass (top 34) 7
theorem scRW : FnScope ["self", "word", "sort"] ["self"] (defScope sRW) := ⟨rfl, rfl, rfl, by decide +kernel, rfl, by decide +kernel, by decide +kernel⟩
theorem ok_rw {f : Addr} {fd : FuncData} (F : Fun K "code_row" "Bytes.code_row" sRW f fd) (T : Txt w K mg) (B : TxtB w K mg C CB) (cCH : CalX P w K mg base 2 C "choice" (spCH K C CB)) (cPT : CalX P w K mg base 4 C "part" (spPT K C CB)) : FnOk P w K mg base (L2.CX P w) 5 f fd ["self"] (spRd K C CB datR pRow) := by
  obtain ⟨aW, mW, kW⟩ := T.words
  obtain ⟨aP, mP, hP⟩ := T.parts
  refine F.okX scRW (fun vs H Q E h => ?_) (fun cdv A outer s0 H vs Q E hr h => ?_)
  · obtain ⟨p, r, dx, bs, l, rfl, _⟩ := h
    rfl
  · obtain ⟨p, r, dx, bs, l, rfl, hs, hz, k0, k1⟩ := h
    have hr2 : Room 2 _ := hr.mono (by decide)
    have tk := takes_of (X := cxOf (L2.CX P w) P w K mg base ["self", "word", "sort"] "Bytes.code_row" (defScope sRW) f cdv A outer s0 H E) rfl rfl rfl rfl
    have ps := passes_call tk (E := E) (fun _ _ _ _ h => h)
    refine ⟨_, pss_cons (ps_set (i := 1) scRW.nd rfl (Or.inl rfl) (pe_mX cCH hr2 (by decide) ps (pv 0) (pa_cons (pe_gref (by rfl) mW) pa_nil)))
      (pss_one (ps_ret (pe_op op_catT (pe_tup (pa_cons (pv 1) pa_nil)) (pe_tupleOf (by rfl) T.tup
          (pe_lcX (W := fun cls d _ H => E cls d H) (E := E) (own := [("sort", 2)]) (g := gName 2) (tt := tYes) rfl rfl tk (fun _ _ _ _ h => h) rfl scRW.nd (pi_tup (pe_ix ix_kdict (pe_gref (by rfl) mP) (pv 1) (fun _ _ => rfl))) (blkOk_by (N := ["self", "word", "sort"]) (sc := defScope sRW) (by decide +kernel))
            (fun _ _ _ _ _ => pg_name (i := 2) scRW.nd rfl (Or.inl rfl)) (fun _ _ _ _ _ => pts_nil) (fun _ _ _ _ _ hx => pe_mX cPT hr (by decide) hx (pv 0) (pa_cons (pv 2) pa_nil))))))), ?_⟩
    obtain ⟨n0, _, _, hp⟩ := hs.ex
    refine ⟨_, rfl, p, dx, _, rfl, hp, pf_none (by decide +kernel), p, r, dx, bs, l, aW, wds, rfl, kW.sq, hs, hz, fun e0 H' b => ?_, fun j l1 e1 v H1 b1 s1 d1 => ?_⟩
    · have e0' : pChoice 32 l = none := e0
      exact k0 (by simp only [pRow, e0']) H' b
    · obtain rfl := d1.str_inv
      have e1' : pChoice 32 l = some (j, l1) := e1
      have hj : j < 32 := (pChoice_inv e1').2
      obtain ⟨t, kt1, kt2⟩ := hP j hj
      refine ⟨_, rfl, by show 1 ≤ sizeLine; decide, fun q nq => ?_⟩
      have sq : Same H1 (upd H1 q (.tup [.str (wds.getD j Str.empty)])) := Same.upd nq
      have s1' := s1.same sq
      refine ⟨_, rfl, aP, _, .ref t, rfl, rfl, kt1, t, rfl, ⟨_, kt2.sq⟩, fun D nD => ?_⟩
      refine lc_many (K := K) (CB := CB) (f := fun i => pPart ((srt j).getD i .d)) (dat := datP) (l := l1) (E := E) walk_tup noL_datP s1' nD (fun i xs li hi _ => ?_) (fun _ _ => kt2.sq) (fun _ => rfl) ?_ ?_ ?_
      · rw [List.length_map] at hi
        have := srt_le j
        omega
      · rintro i y H3 H3' li R hi b3 ⟨rfl, hy⟩
        rw [List.length_map] at hi
        have ey : y = .str (nm ((srt j).getD i .d)) := by
          rw [List.getElem?_map, List.getElem?_eq_getElem hi] at hy
          rw [List.getD_eq_getElem?_getD, List.getElem?_eq_getElem hi]
          exact (Option.some.inj hy).symm
        subst ey
        refine ⟨rfl, fun s3 o3 => ?_⟩
        obtain ⟨n3, _, _, hp3⟩ := s3.ex
        exact ⟨_, rfl, p, dx, _, rfl, hp3, pf_none (by decide +kernel), _, rfl, p, r, dx, bs, li, _, rfl, s3, hz, o3⟩
      · intro e0 H' b
        rw [List.length_map] at e0
        exact k0 (pRow_0 e1' e0) H' (b1.trans (sq.but.trans b))
      · intro xs l' e3 vs H3 b3 hD s3 hd
        rw [List.length_map] at e3
        have hlx : vs.length ≤ 4 := by
          rw [hd.length, List.length_map, pSeq_length e3]
          exact srt_le j
        have hq3 : SqT K H3 q [.str (wds.getD j Str.empty)] := b3.tup (SqT.of upd_same) s1'.isIns
        refine .inl ⟨D, _, rfl, SqL.of hD, fun u nu => ?_⟩
        have s4 : Same H3 (upd H3 u (.tup vs)) := Same.upd nu
        refine ⟨q, u, _, vs, rfl, rfl, s4.seqT hq3, SqT.of upd_same, by simp, small (by simp; omega), fun ev => ?_, fun ev z nz => ?_⟩
        · subst ev
          refine k1 (j, xs) l' (pRow_1 e1' e3) _ _ (b1.trans (sq.but.trans (b3.trans s4.but))) (s3.same s4) ?_
          have ex : xs = [] := by
            have := hd.length
            cases xs with
            | nil => rfl
            | cons _ _ => simp at this
          subst ex
          exact .tup (s4.seqT hq3) (.cons (.str _) .nil)
        · have s5 : Same (upd H3 u (.tup vs)) (upd (upd H3 u (.tup vs)) z (.tup ([.str (wds.getD j Str.empty)] ++ vs))) := Same.upd nz
          refine k1 (j, xs) l' (pRow_1 e1' e3) _ _ (b1.trans (sq.but.trans (b3.trans (s4.but.trans s5.but)))) ((s3.same s4).same s5) ?_
          exact .tup (SqT.of upd_same) (.cons (.str _) ((hd.mono s4).mono s5))
end
end L2.KR

namespace L2.KR
open PySem PySem.Spec PyProof.Rows K53
theorem rd_none {R : List Nat} (h : pCode R = none) : rd R = none := by simp only [rd, h]
theorem rd_more {R : List Nat} {c : K53.Code} {x : Nat} {l : List Nat} (h : pCode R = some (c, x :: l)) : rd R = none := by simp only [rd, h]
theorem rd_bad {R : List Nat} {c : K53.Code} (h : pCode R = some (c, [])) (hb : ¬ (okC c = true ∧ enc c = R)) : rd R = none := by simp only [rd, h, if_neg hb]
theorem rd_good {R : List Nat} {c : K53.Code} (h : pCode R = some (c, [])) (hb : okC c = true ∧ enc c = R) : rd R = some c := by simp only [rd, h, if_pos hb]
theorem pChoice_kn {K : PySem.W.Frag} {H : Hp} {l : List Nat} {vs : List V} (h : DpAll K H vs (l.map fun j => .str (kns.getD j Str.empty))) : vs = l.map fun k => V.str (kn k) := DpAll.strs_inv (f := kn) h
section
variable {P : Program} {w : World} {K : PySem.W.Frag} {mg : Str → Option Value} {base : Heap} {C CB : Addr}
def spRB (K : PySem.W.Frag) (CB : Addr) : Sp := fun vs H Q E => ∃ (r : Addr) (R : List Nat), vs = [.ref r] ∧ H r = some (.lst (nats R)) ∧ R.length ≤ 1000000 ∧ K53.B8 R ∧
  (rd R = none → ∀ H', Same H H' → E (.ref CB) none H') ∧ ∀ c, rd R = some c → ∀ v H', Same H H' → Dp K H' v (datC c) → Q v H'
abbrev sRB : Stmt := top 35
theorem scRB : FnScope ["row", "source", "many", "kinds", "code", "_"] ["row"] (defScope sRB) := ⟨rfl, rfl, rfl, by decide +kernel, rfl, by decide +kernel, by decide +kernel⟩
theorem ok_rb {f : Addr} {fd : FuncData} (F : Fun K "read_bytes" "read_bytes" sRB f fd) (T : Txt w K mg) (B : TxtB w K mg C CB) (M : C8.Mak P w K mg base 1 "Bytes" C (spBI C) []) (cCH : CalX P w K mg base 2 C "choice" (spCH K C CB)) (cCT : CalX P w K mg base 2 C "count" (spRd K C CB dI pCnt)) (cRW : CalX P w K mg base 5 C "code_row" (spRd K C CB datR pRow))
    (cHF : C8.Cal P w K mg base 5 "has_form" (spHF K) []) (cWB : C8.Cal P w K mg base 4 "write_bytes" (spWB K) []) : FnOk P w K mg base (L2.CX P w) 6 f fd ["row"] (spRB K CB) := by
  obtain ⟨aK, mK, kK⟩ := T.kinds
  refine F.okX scRB (fun vs H Q E h => ?_) (fun cdv A outer s0 H vs Q E hr h => ?_)
  · obtain ⟨r, R, rfl, _⟩ := h
    rfl
  · obtain ⟨r, R, rfl, hR, hz, h8, k0, k1⟩ := h
    have hr2 : Room 2 _ := hr.mono (by decide)
    have tk := takes_of (X := cxOf (L2.CX P w) P w K mg base ["row", "source", "many", "kinds", "code", "_"] "read_bytes" (defScope sRB) f cdv A outer s0 H E) rfl rfl rfl rfl
    have ps := passes_call tk (E := E) (fun _ _ _ _ h => h)
    refine ⟨_, pss_cons (ps_set (i := 1) scRB.nd rfl (Or.inr rfl) (C8.pe_mk M hr (by decide) (by rfl) (pa_cons (pv 0) pa_nil)))
      (pss_cons (ps_set (i := 2) scRB.nd rfl (Or.inl rfl) (pe_mX0 cCT hr2 (by decide) ps (pv 1)))
      (pss_cons (ps_set (i := 3) scRB.nd rfl (Or.inl rfl) (pe_tupleOf (by rfl) T.tup
          (pe_lcX (W := fun cls d _ H => E cls d H) (E := E) (own := [("_", 5)]) (g := gName 5) (tt := tYes) (te := tMeth C "choice" (spCH K C CB) [] E (tVar 1) (tCons (tC (.ref aK)) tNil)) rfl rfl tk (fun _ _ _ _ h => h) rfl scRB.nd (pi_rangeA (by rfl) T.range (pa_cons (pv 2) pa_nil)) (blkOk_by (N := ["row", "source", "many", "kinds", "code", "_"]) (sc := defScope sRB) (by decide +kernel))
            (fun _ _ _ _ _ => pg_name (i := 5) scRB.nd rfl (Or.inl rfl)) (fun _ _ _ _ _ => pts_nil) (fun _ _ _ _ _ hx => pe_mX cCH hr2 (by decide) hx (pv 1) (pa_cons (pe_gref (by rfl) mK) pa_nil)))))
      (pss_cons (ps_set (i := 2) scRB.nd rfl (Or.inl rfl) (pe_mX0 cCT hr2 (by decide) ps (pv 1)))
      (pss_cons (ps_set (i := 4) scRB.nd rfl (Or.inl rfl) (pe_tup (pa_cons (pv 3) (pa_cons (pe_tupleOf (by rfl) T.tup
          (pe_lcX (W := fun cls d _ H => E cls d H) (E := E) (own := [("_", 5)]) (g := gName 5) (tt := tYes) (te := tMeth C "code_row" (spRd K C CB datR pRow) [] E (tVar 1) tNil) rfl rfl tk (fun _ _ _ _ h => h) rfl scRB.nd (pi_rangeA (by rfl) T.range (pa_cons (pv 2) pa_nil)) (blkOk_by (N := ["row", "source", "many", "kinds", "code", "_"]) (sc := defScope sRB) (by decide +kernel))
            (fun _ _ _ _ _ => pg_name (i := 5) scRB.nd rfl (Or.inl rfl)) (fun _ _ _ _ _ => pts_nil) (fun _ _ _ _ _ hx => pe_mX0 cRW hr (by decide) hx (pv 1)))) pa_nil))))
      (pss_cons (ps_if (PW.pt (pw_or (pt_cmpR op_ne (pe_fld (pv 1) rfl) (pe_callB call_len_seq (by rfl) T.len PySem.boot_len (pa_cons (pv 0) pa_nil)) (nomark _)) (pw_or (pt_not (pt_val (C8.pe_c cHF hr (by decide) (by rfl) (pa_cons (pv 4) (pa_cons pe_non pa_nil)))))
          (pw_or1 (pt_cmpR (op_neD (units64 hr)) (C8.pe_c cWB hr (by decide) (by rfl) (pa_cons (pv 4) pa_nil)) (pe_callTy call_list_of (by rfl) T.list boot_list (pa_cons (pv 0) pa_nil)) (nomark _))))))
        (pss_one (ps_raise rfl tk (pmk_own PySem.F.excBase_ValueError B.exc B.bad B.kpB (raises_own B.sub B.typ) (by rfl)))) pss_nil)
      (pss_one (ps_ret (pv 4)))))))), ?_⟩
    refine ⟨_, rfl, fun p dx np ndx ne => ?_⟩
    have sA : Same H (upd (upd H dx (.own p)) p (.ins C dx [])) := fun b o e => by
      rw [upd_ne (ne_of_none e np), upd_ne (ne_of_none e ndx)]
      exact e
    refine ⟨p, r, dx, rfl, upd_same, fun H1 b1 h1 => ⟨rfl, ?_⟩⟩
    have s1 : Same H H1 := fun b o e => b1 b o (ne_of_none e np) (sA b o e)
    have src1 : SrcL C p r dx R H1 R := ⟨⟨0, rfl, Nat.zero_le _, h1⟩, s1 _ _ hR⟩
    -- from here on: But p of H1
    have toS : ∀ {H' : Hp}, But p H1 H' → Same H H' := fun b c o e => b c o (ne_of_none e np) (s1 c o e)
    refine ⟨_, rfl, p, dx, _, rfl, h1, pf_none (by decide +kernel), p, r, dx, R, R, rfl, src1, hz, fun e0 H' b => k0 (rd_none (pCode_0 e0)) H' (toS b), fun n l1 e1 v H2 b2 s2 d2 => ?_⟩
    obtain rfl := d2.int_inv
    refine ⟨_, rfl, (n : Int), rfl, fun D nD => ?_⟩
    refine lc_many (K := K) (CB := CB) (f := fun _ => pChoice kns.length) (dat := fun j => .str (kns.getD j Str.empty)) (l := l1) (E := E) walk_range (fun _ => rfl) s2 nD (fun i xs li _ e => ?_) (fun _ _ => trivial) (fun _ => rfl) ?_ ?_ ?_
    · have := pSeq_many (f := fun _ => pChoice kns.length) (fun _ _ _ _ q => pChoice_one q) e
      have := s2.le
      omega
    · rintro i y H3 H3' li R' hi b3 ⟨rfl, rfl⟩
      refine ⟨rfl, fun s3 o3 => ?_⟩
      obtain ⟨n3, _, _, hp3⟩ := s3.ex
      exact ⟨_, rfl, p, dx, _, rfl, hp3, pf_none (by decide +kernel), p, r, dx, R, li, aK, kns, rfl, kK.sq, s3, hz, o3⟩
    · intro e0 H' b
      exact k0 (rd_none (pCode_1 e1 e0)) H' (toS (b2.trans b))
    · intro ks l2 e2 vs H3 b3 hD s3 hd
      have e2' : pSeq (fun _ => pChoice 2) n l1 = some (ks, l2) := e2
      have evs := pChoice_kn hd
      subst evs
      refine .inl ⟨D, _, rfl, SqL.of hD, fun qk nqk => ?_⟩
      have s4 : Same H3 (upd H3 qk (.tup (ks.map fun k => V.str (kn k)))) := Same.upd nqk
      have src4 := s3.same s4
      have dk : Dp K (upd H3 qk (.tup (ks.map fun k => V.str (kn k)))) (.ref qk) (.tuple (ks.map fun k => .str (kn k))) := .tup (SqT.of upd_same) (dp_strs kn ks)
      have b4 : But p H1 (upd H3 qk (.tup (ks.map fun k => V.str (kn k)))) := b2.trans (b3.trans s4.but)
      obtain ⟨n4, _, _, hp4⟩ := src4.ex
      refine ⟨_, rfl, p, dx, _, rfl, hp4, pf_none (by decide +kernel), p, r, dx, R, l2, rfl, src4, hz, fun e0 H' b => k0 (rd_none (pCode_2 e1 e2' e0)) H' (toS (b4.trans b)), fun m l3 e3 v H5 b5 s5 d5 => ?_⟩
      obtain rfl := d5.int_inv
      have dk5 : Dp K H5 (.ref qk) (.tuple (ks.map fun k => .str (kn k))) := dp_keep (.of_but b5 src4.isIns) (noLs_map (fun _ => rfl) ks) dk
      have b5' := b4.trans b5
      refine ⟨_, rfl, _, rfl, (m : Int), rfl, fun D2 nD2 => ?_⟩
      refine lc_many (K := K) (CB := CB) (f := fun _ => pRow) (dat := datR) (l := l3) (E := E) walk_range noL_datR s5 nD2 (fun i xs li _ e => ?_) (fun _ _ => trivial) (fun _ => rfl) ?_ ?_ ?_
      · have := pSeq_many (f := fun _ => pRow) (fun _ _ _ _ q => pRow_one q) e
        have := s5.le
        omega
      · rintro i y H6 H6' li R' hi b6 ⟨rfl, rfl⟩
        refine ⟨rfl, fun s6 o6 => ?_⟩
        obtain ⟨n6, _, _, hp6⟩ := s6.ex
        exact ⟨_, rfl, p, dx, _, rfl, hp6, pf_none (by decide +kernel), p, r, dx, R, li, rfl, s6, hz, o6⟩
      · intro e0 H' b
        exact k0 (rd_none (pCode_3 e1 e2' e3 e0)) H' (toS (b5'.trans b))
      · intro rs l4 e4 vs H6 b6 hD6 s6 hd6
        have eC := pCode_4 e1 e2' e3 e4
        have dk6 : Dp K H6 (.ref qk) (.tuple (ks.map fun k => .str (kn k))) := dp_keep (.of_but b6 s5.isIns) (noLs_map (fun _ => rfl) ks) dk5
        refine .inl ⟨D2, _, rfl, SqL.of hD6, fun qr nqr => ?_⟩
        have s7 : Same H6 (upd H6 qr (.tup vs)) := Same.upd nqr
        refine ⟨by show 2 ≤ sizeLine; decide, fun qc nqc => ?_⟩
        have s8 : Same (upd H6 qr (.tup vs)) (upd (upd H6 qr (.tup vs)) qc (.tup [.ref qk, .ref qr])) := Same.upd nqc
        have s78 := s7.trans s8
        have src8 := s6.same s78
        have dc : Dp K (upd (upd H6 qr (.tup vs)) qc (.tup [.ref qk, .ref qr])) (.ref qc) (datC (ks, rs)) :=
          .tup (SqT.of upd_same) (.cons (dk6.mono s78) (.cons ((Dp.tup (SqT.of upd_same) (hd6.mono s7)).mono s8) .nil))
        have b8 := (b5'.trans b6).trans s78.but
        have typ := pCode_typ h8 eC
        have len := pCode_len eC
        have src8r := src8.row
        obtain ⟨n8, hl4, hn8, hp8⟩ := src8.ex
        refine ⟨_, rfl, p, C, dx, _, _, rfl, hp8, B.cl, B.nA, pf_at _ _, _, rfl, r, _, rfl, .inl (SqL.of src8r), rfl, ?_⟩
        rw [nats_length]
        by_cases hnr : n8 = R.length
        · have l40 : l4 = [] := by rw [hl4, hnr]; exact List.drop_length
          subst l40
          refine ⟨false, ?_, ?_⟩
          · show V.bl (!decide (V.int ((n8 : Nat) : Int) = V.int ((R.length : Nat) : Int))) = V.bl false
            rw [hnr, decide_eq_true rfl]
            rfl
          refine ⟨_, rfl, _, (ks, rs), rfl, typ, dc, by omega, fun H9 s9 => ?_⟩
          cases ho : okC (ks, rs) with
          | false =>
            refine ⟨false, rfl, ?_⟩
            refine k0 (rd_bad eC (fun z => by rw [ho] at z; cases z.1)) H9 (toS (b8.trans s9.but))
          | true =>
            refine ⟨true, rfl, ?_⟩
            refine ⟨_, rfl, _, (ks, rs), rfl, typ, dc.mono s9, by omega, fun H10 p10 s10 n10 h10 => ?_⟩
            refine ⟨_, rfl, r, _, rfl, .inl (SqL.of (s10 _ _ (s9 _ _ src8r))), fun p11 n11 => ?_⟩
            have s11 : Same H10 (upd H10 p11 (.lst (nats R))) := Same.upd n11
            refine ⟨.list ((enc (ks, rs)).map dI), .list (R.map dI), .lst (SqL.of (s11 _ _ h10)) (dp_nats _), .lst (SqL.of upd_same) (dp_nats _), shaped_nats _, shaped_nats _, ?_⟩
            have eE : PyData.eqv (.list ((enc (ks, rs)).map dI)) (.list (R.map dI)) = decide (enc (ks, rs) = R) := eqv_nats _ _
            rw [eE]
            have sF := b8.trans (s9.trans (s10.trans s11)).but
            by_cases he : enc (ks, rs) = R
            · refine ⟨false, by rw [decide_eq_true he]; rfl, ?_⟩
              exact ⟨_, rfl, k1 (ks, rs) (rd_good eC ⟨ho, he⟩) _ _ (toS sF) (dc.mono (s9.trans (s10.trans s11)))⟩
            · refine ⟨true, by rw [decide_eq_false he]; rfl, ?_⟩
              exact k0 (rd_bad eC (fun z => he z.2)) _ (toS sF)
        · refine ⟨true, ?_, ?_⟩
          · show V.bl (!decide (V.int ((n8 : Nat) : Int) = V.int ((R.length : Nat) : Int))) = V.bl true
            rw [decide_eq_false (fun z => hnr (by have := V.int.inj z; omega))]
            rfl
          have : l4 ≠ [] := fun z => by
            have := congrArg List.length hl4
            rw [z, List.length_drop] at this
            simp at this
            omega
          cases l4 with
          | nil => exact absurd rfl this
          | cons x l => exact k0 (rd_more eC) _ (toS b8)
end
end L2.KR

namespace L2.KR
open PySem PySem.Spec PyProof.Rows K53
/-! ### the draws -/
def dk (r : Addr) (k : Nat) : List (Key × V) := [(.inr "row", .ref r), (.inr "at", .int ((k : Nat) : Int))]
theorem dk_row (r : Addr) (k : Nat) : some (V.ref r) = valV (dk r k) (Sum.inr ("row" : Str)) := rfl
theorem dk_at (r : Addr) (k : Nat) : some (V.int ((k : Nat) : Int)) = valV (dk r k) (Sum.inr ("at" : Str)) := rfl
theorem dk_put (r : Addr) (k : Nat) : putK (dk r k) (Sum.inr ("at" : Str)) (.int ((k : Int) + 1)) = dk r (k + 1) := rfl
theorem dk_new (r : Addr) : mergeK [] [(Sum.inr ("row" : Str), V.ref r), (Sum.inr ("at" : Str), V.int 0)] = dk r 0 := rfl
/-- d draws -/
def Dr (d r : Addr) (ds : List Nat) (H : Hp) : Prop := ∃ k, H d = some (.dK (dk r k)) ∧ H r = some (.lst (nats ds)) ∧ ds.length = 400
section
variable {d r : Addr} {ds : List Nat} {H H' : Hp}
theorem Dr.same (h : Dr d r ds H) (e : Same H H') : Dr d r ds H' := by
  obtain ⟨k, h1, h2, h3⟩ := h
  exact ⟨k, e _ _ h1, e _ _ h2, h3⟩
theorem Dr.ne (h : Dr d r ds H) {p : Addr} (np : H p = none) : p ≠ d := by
  obtain ⟨k, h1, h2, h3⟩ := h
  exact fun e => by rw [e, h1] at np; cases np
theorem Dr.nr (h : Dr d r ds H) {p : Addr} (np : H p = none) : p ≠ r := by
  obtain ⟨k, h1, h2, h3⟩ := h
  exact fun e => by rw [e, h2] at np; cases np
/-- a list is not d -/
theorem Dr.ne0 (h : Dr d r ds H) {p : Addr} {xs : List V} (hp : H p = some (.lst xs)) : p ≠ d := by
  obtain ⟨k, h1, h2, h3⟩ := h
  exact fun e => by rw [e, h1] at hp; cases hp
/-- a store at what was not there -/
theorem Dr.upd (h : Dr d r ds H') {p : Addr} {o : HO} (h1 : p ≠ d) (h2 : p ≠ r) : Dr d r ds (L2.upd H' p o) := by
  obtain ⟨k, a1, a2, a3⟩ := h
  exact ⟨k, by rw [upd_ne (Ne.symm h1)]; exact a1, by rw [upd_ne (Ne.symm h2)]; exact a2, a3⟩
end
/-- the tuples stand where only d changes -/
theorem KeepT.of_dr {K : PySem.W.Frag} {H H' : Hp} {d r : Addr} {ds : List Nat} (e : But d H H') (h : Dr d r ds H) : KeepT K H H' := fun a xs q => by
  obtain ⟨k, h1, h2, h3⟩ := h
  have ne : ∀ {o : HO}, H a = some o → (∀ kvs, o ≠ .dK kvs) → a ≠ d := fun {o} g1 g2 z => by
    rw [z, h1] at g1
    exact g2 _ (Option.some.inj g1).symm
  rcases q with (q | ⟨o, q⟩) | q
  · exact .inl (.inl (e _ _ (ne q (fun _ z => by cases z)) q))
  · exact .inl (.inr ⟨o, e _ _ (ne q (fun _ z => by cases z)) q⟩)
  · exact .inr q
/-- a drawing def -/
def spDr (K : PySem.W.Frag) (val : PyData → Prop) : Sp := fun vs H Q _ => ∃ d r ds, vs = [.ref d] ∧ Dr d r ds H ∧ ∀ v dt H', val dt → Dp K H' v dt → But d H H' → Dr d r ds H' → Q v H'
def vTake (dt : PyData) : Prop := ∃ n : Nat, dt = dI n
section
variable {P : Program} {w : World} {K : PySem.W.Frag} {mg : Str → Option Value} {base : Heap}
abbrev sLT : Stmt := top 38
theorem scLT : FnScope ["_law_d", "_law_at"] ["_law_d"] (defScope sLT) := ⟨rfl, rfl, rfl, by decide +kernel, rfl, by decide +kernel, by decide +kernel⟩
theorem ok_lt {f : Addr} {fd : FuncData} (F : Fun K "_law_take" "_law_take" sLT f fd) (T : Txt w K mg) : FnOk P w K mg base CX0 1 f fd ["_law_d"] (spDr K vTake) := by
  refine F.ok scLT (fun vs H Q E h => ?_) (fun cdv A outer s0 H vs Q E hr h => ?_)
  · obtain ⟨d, r, ds, rfl, _⟩ := h
    rfl
  · obtain ⟨d, r, ds, rfl, hd, k⟩ := h
    refine ⟨_, pss_cons (ps_set (i := 1) scLT.nd rfl (Or.inl rfl) (pe_dget (units1 hr) (pv 0) pe_str (fun _ _ => rfl)))
      (pss_cons (ps_dput (units1 hr) (pv 0) pe_str (pe_op op_add (pv 1) pe_int) rfl)
      (pss_one (ps_ret (pe_op op_add (pe_ix ix_list (pe_dget (units1 hr) (pv 0) pe_str (fun _ _ => rfl)) (pe_op op_mod (pv 1) (pe_callB call_len_seq (by rfl) T.len PySem.boot_len (pa_cons (pe_dget (units1 hr) (pv 0) pe_str (fun _ _ => rfl)) pa_nil))) (fun _ _ => rfl)) (pe_op op_fdiv (pv 1) (pe_callB call_len_seq (by rfl) T.len PySem.boot_len (pa_cons (pe_dget (units1 hr) (pv 0) pe_str (fun _ _ => rfl)) pa_nil))))))), ?_⟩
    obtain ⟨n, h1, h2, h3⟩ := hd
    have hne : r ≠ d := fun e => by rw [e, h1] at h2; cases h2
    refine ⟨_, rfl, d, _, rfl, .inl ⟨_, _, .inl h1, rfl, dk_at r n⟩, ?_⟩
    refine ⟨_, rfl, _, _, rfl, rfl, _, rfl, d, _, rfl, .inl ⟨_, .inr "at", h1, rfl, small (by show 3 ≤ 1000000; decide), rfl⟩, ?_⟩
    have g1 : upd H d (.dK (putK (dk r n) (Sum.inr ("at" : Str)) (.int ((n : Int) + 1)))) d = some (.dK (dk r (n + 1))) := by rw [upd_same, dk_put]
    have g2 : upd H d (.dK (putK (dk r n) (Sum.inr ("at" : Str)) (.int ((n : Int) + 1)))) r = some (.lst (nats ds)) := by rw [upd_ne hne]; exact h2
    have hlt : n % 400 < ds.length := by omega
    have hv : ds[n % 400]? = some ds[n % 400] := by simp [hlt]
    have e400 : (((nats ds).length : Nat) : Int) = 400 := by rw [nats_length, h3]; rfl
    refine ⟨_, rfl, d, _, rfl, .inl ⟨_, _, .inl g1, rfl, dk_row r (n + 1)⟩, _, rfl, _, rfl, d, _, rfl, .inl ⟨_, _, .inl g1, rfl, dk_row r (n + 1)⟩, r, _, rfl, .inl (SqL.of g2), _, _, rfl, rfl, ?_, r, _, _, .int ((ds[n % 400] : Nat) : Int), rfl, rfl, SqL.of g2, at_of (j := n % 400) ?_ (nats_at hv), ?_⟩
    · rw [e400]
      show (0 : Int) < 400
      decide
    · rw [e400]
      omega
    refine ⟨_, rfl, _, rfl, d, _, rfl, .inl ⟨_, _, .inl g1, rfl, dk_row r (n + 1)⟩, r, _, rfl, .inl (SqL.of g2), _, _, rfl, rfl, ?_, _, _, rfl, rfl, ?_⟩
    · rw [e400]
      exact ⟨by decide, by decide⟩
    rw [e400]
    have ev : ((ds[n % 400] : Nat) : Int) + (n : Int) / 400 = ((ds[n % 400] + n / 400 : Nat) : Int) := by omega
    show Q (.int (((ds[n % 400] : Nat) : Int) + (n : Int) / 400)) _
    rw [ev]
    exact k _ _ _ ⟨_, rfl⟩ (.int _) But.upd ⟨n + 1, g1, g2, h3⟩
end
end L2.KR

namespace L2.KR
open PySem PySem.Spec PyProof.Rows K53
theorem cut_take (ds : List Nat) (n : Nat) (h : n ≤ ds.length) : cutV (nats ds) none (some ((n : Nat) : Int)) = nats (ds.take n) := by
  unfold cutV
  rw [HT.sIx_none, HT.sIx_nat, nats_length, Nat.min_eq_left h, Nat.sub_zero, List.drop_zero]
  unfold nats
  rw [List.map_take]
theorem natI {i : Int} (h : 0 ≤ i) : ((i.toNat : Nat) : Int) = i := Int.toNat_of_nonneg h
theorem nats_snoc (ds : List Nat) {i : Int} (h : 0 ≤ i) : nats ds ++ [V.int i] = nats (ds ++ [i.toNat]) := by
  rw [nats_app]
  unfold nats
  simp [natI h]
section
variable {P : Program} {w : World} {K : PySem.W.Frag} {mg : Str → Option Value} {base : Heap}
def spLD (K : PySem.W.Frag) : Sp := fun vs H Q _ => ∃ a, ∃ ns : List Int, vs = [.ref a, .int 400] ∧ SqL K H a (ns.map V.int) ∧ ns.length ≤ 63 ∧ ∀ H' p, ∀ ds : List Nat, Same H H' → H p = none → H' p = some (.lst (nats ds)) → ds.length = 400 → Q (.ref p) H'
abbrev sLD : Stmt := top 37
theorem scLD : FnScope ["_law_script", "_law_many", "_law_draws_here", "_law_mixed", "_law_k", "_law_cell", "_law_rest", "_law_turn"] ["_law_script", "_law_many"] (defScope sLD) := ⟨rfl, rfl, rfl, by decide +kernel, rfl, by decide +kernel, by decide +kernel⟩
theorem ok_ld {f : Addr} {fd : FuncData} (F : Fun K "_law_draws" "_law_draws" sLD f fd) (T : Txt w K mg) : FnOk P w K mg base CX0 1 f fd ["_law_script", "_law_many"] (spLD K) := by
  refine F.ok scLD (fun vs H Q E h => ?_) (fun cdv A outer s0 H vs Q E hr h => ?_)
  · obtain ⟨a, ns, rfl, _⟩ := h
    rfl
  · obtain ⟨a, ns, rfl, hS, hlen, k⟩ := h
    refine ⟨_, pss_cons (ps_set (i := 2) scLD.nd rfl (Or.inl rfl) (pe_lst pa_nil)) (pss_cons (ps_set (i := 3) scLD.nd rfl (Or.inl rfl) pe_int)
      (pss_cons (ps_for PassesOwn.never rfl (pi_range1 (by rfl) T.range (pa_cons (pe_callB call_len_seq (by rfl) T.len PySem.boot_len (pa_cons (pv 0) pa_nil)) pa_nil)) (pg_name (i := 4) scLD.nd rfl (Or.inl rfl))
        (pss_cons (ps_set (i := 5) scLD.nd rfl (Or.inl rfl) (pe_callB call_abs (by rfl) T.abs boot_abs (pa_cons (pe_callTy call_int1 (by rfl) T.int boot_int (pa_cons (pe_ix ix_list (pv 0) (pv 4) (fun _ _ => rfl)) pa_nil)) pa_nil)))
        (pss_cons (ps_set (i := 3) scLD.nd rfl (Or.inl rfl) (pe_op op_mod (pe_callTy call_int1 (by rfl) T.int boot_int (pa_cons (pe_op op_add (pe_op op_add (pe_op op_mul (pv 3) pe_int) (pe_op op_mod (pv 5) pe_int)) (pv 4)) pa_nil)) pe_int))
        (pss_cons (ps_set (i := 6) scLD.nd rfl (Or.inl rfl) pe_int)
        (pss_cons (ps_if (pt_cmpR op_ge (pv 5) (pe_op op_pow pe_int pe_int) (nomark _)) (pss_one (ps_set (i := 6) scLD.nd rfl (Or.inl rfl) (pv 5)))
          (pss_cons (ps_expr (pe_bm PySem.F.plainAttrs_list PySem.F.slot_list_append PySem.F.type_list_append mt_append (pv 2) (pa_cons (pe_op op_mod (pv 5) pe_int) pa_nil)))
          (pss_one (ps_expr (pe_bm PySem.F.plainAttrs_list PySem.F.slot_list_append PySem.F.type_list_append mt_append (pv 2) (pa_cons (pe_op op_mod (pe_op op_mod (pe_callTy call_int1 (by rfl) T.int boot_int (pa_cons (pe_op op_add (pe_op op_mul (pv 3) pe_int) pe_int) pa_nil)) pe_int) pe_int) pa_nil))))))
        (pss_one (ps_for PassesOwn.never rfl (pi_range1 (by rfl) T.range (pa_cons pe_int pa_nil)) (pg_name (i := 7) scLD.nd rfl (Or.inl rfl))
          (pss_one (ps_if (pt_cmpR op_gt (pv 6) pe_int (nomark _))
            (pss_cons (ps_expr (pe_bm PySem.F.plainAttrs_list PySem.F.slot_list_append PySem.F.type_list_append mt_append (pv 2) (pa_cons (pe_op op_mod (pe_callTy call_int1 (by rfl) T.int boot_int (pa_cons (pv 6) pa_nil)) pe_int) pa_nil)))
            (pss_one (ps_set (i := 6) scLD.nd rfl (Or.inl rfl) (pe_op op_fdiv (pv 6) pe_int)))) pss_nil)))))))))
      (pss_cons (ps_for PassesOwn.never rfl (pi_range1 (by rfl) T.range (pa_cons (pv 1) pa_nil)) (pg_name (i := 4) scLD.nd rfl (Or.inl rfl))
        (pss_cons (ps_set (i := 3) scLD.nd rfl (Or.inl rfl) (pe_op op_mod (pe_callTy call_int1 (by rfl) T.int boot_int (pa_cons (pe_op op_add (pe_op op_add (pe_op op_mul (pv 3) pe_int) (pv 4)) pe_int) pa_nil)) pe_int))
        (pss_one (ps_expr (pe_bm PySem.F.plainAttrs_list PySem.F.slot_list_append PySem.F.type_list_append mt_append (pv 2) (pa_cons (pe_op op_mod (pe_callTy call_int1 (by rfl) T.int boot_int (pa_cons (pv 3) pa_nil)) pe_int) pa_nil))))))
      (pss_one (ps_ret (pe_slice sl_list (pv 2) po_none (po_some (pv 1)))))))), ?_⟩
    refine ⟨Nat.zero_le _, fun l nl => ?_⟩
    have hcm : ∀ m c : Int, -(2 ^ 64) < c ∧ c < 2 ^ 64 → CMul m c := fun m c h => .inr h
    refine ⟨_, rfl, a, _, rfl, .inl ((Same.upd nl).seq hS), ns.length, by rw [List.length_map], by omega, by omega, ?_⟩
    refine for_range (n := ns.length) (fun i σ H' => ∃ (m : Int) (ds : List Nat) (v4 v5 v6 v7 : Option V), σ = [some (.ref a), some (.int 400), some (.ref l), some (.int m), v4, v5, v6, v7] ∧ Same H H' ∧ H' l = some (.lst (nats ds)) ∧ ds.length ≤ 62 * i)
      ⟨7, [], none, none, none, none, rfl, Same.upd nl, upd_same, Nat.zero_le _⟩ ?_ ?_
    · rintro i σ H1 hi ⟨m, ds, v4, v5, v6, v7, rfl, s1, h1, hd⟩
      have hx : ns[i]? = some ns[i] := by simp [hi]
      have e0 : (0 : Int) + (i : Int) = (i : Int) := by omega
      refine ⟨_, rfl, _, rfl, a, _, _, .int ns[i], rfl, rfl, s1.seq hS, at_of (j := i) e0 (by rw [List.getElem?_map, hx]; rfl), .inl ⟨_, rfl, _, rfl, ?_⟩⟩
      generalize hc : (if ns[i] < 0 then -ns[i] else ns[i]) = c
      have hc0 : 0 ≤ c := by
        rw [← hc]
        split <;> omega
      refine ⟨_, rfl, _, _, rfl, rfl, hcm _ _ (by decide), _, rfl, _, _, rfl, rfl, by show (0 : Int) < 1000003; decide, _, _, rfl, rfl, _, rfl, _, _, rfl, rfl, .inl ⟨_, rfl, _, _, rfl, rfl, by show (0 : Int) < 65537; decide, ?_⟩⟩
      refine ⟨_, rfl, _, _, rfl, rfl, ⟨by decide, by decide, by decide⟩, _, _, rfl, rfl, _, rfl, ?_⟩
      by_cases hbig : (10 : Int) ^ (18 : Int).toNat ≤ c
      · refine ifT (decide_eq_true hbig) ?_
        refine ⟨_, rfl, ?_⟩
        refine ⟨60, rfl, by decide, by decide, for_range (n := 60) (fun t σ H' => ∃ (m : Int) (rs : Int) (ds' : List Nat) (v4 v5 v7 : Option V), 0 ≤ rs ∧ σ = [some (.ref a), some (.int 400), some (.ref l), some (.int m), v4, v5, some (.int rs), v7] ∧ Same H H' ∧ H' l = some (.lst (nats ds')) ∧ ds'.length ≤ 62 * i + 2 + t)
          ⟨_, c, ds, _, _, _, hc0, rfl, s1, h1, by omega⟩ ?_ ?_⟩
        · rintro t σ H3 ht ⟨m3, rs, ds3, w4, w5, w7, hrs, rfl, s3, h3, hd3⟩
          refine ⟨_, rfl, _, _, rfl, rfl, _, rfl, ?_⟩
          by_cases hp : 0 < rs
          · refine ifT (decide_eq_true hp) ?_
            refine ⟨_, rfl, .inl ⟨rfl, _, SqL.of h3⟩, _, rfl, .inl ⟨_, rfl, _, _, rfl, rfl, by show (0 : Int) < 997; decide, l, _, _, rfl, rfl, h3, smallLt (by rw [nats_length]; omega), ?_⟩⟩
            refine ⟨_, rfl, _, _, rfl, rfl, ⟨by decide, by decide⟩, ?_⟩
            refine ⟨_, rs / 997, ds3 ++ [(rs % 997).toNat], _, _, _, by omega, rfl, s3.updAt nl, ?_, by rw [List.length_append, List.length_singleton]; omega⟩
            rw [upd_same, nats_snoc _ (by omega)]
          · refine ifF (decide_eq_false hp) ?_
            exact ⟨_, rs, ds3, _, _, _, hrs, rfl, s3, h3, by omega⟩
        · rintro σ H3 ⟨m3, rs, ds3, w4, w5, w7, hrs, rfl, s3, h3, hd3⟩
          exact ⟨_, ds3, _, _, _, _, rfl, s3, h3, by omega⟩
      · refine ifF (decide_eq_false hbig) ?_
        have hm1 : 0 ≤ (m * 48271 + c % 1000003 + (0 + (i : Int))) % 65537 := Int.emod_nonneg _ (by decide)
        refine ⟨_, rfl, .inl ⟨rfl, _, SqL.of h1⟩, _, rfl, _, _, rfl, rfl, by show (0 : Int) < 997; decide, l, _, _, rfl, rfl, h1, smallLt (by rw [nats_length]; omega), ?_⟩
        have h2 : upd H1 l (.lst (nats ds ++ [V.int (c % 997)])) l = some (.lst (nats (ds ++ [(c % 997).toNat]))) := by rw [upd_same, nats_snoc _ (by omega)]
        refine ⟨_, rfl, .inl ⟨rfl, _, SqL.of h2⟩, _, rfl, _, _, rfl, rfl, hcm _ _ (by decide), _, _, rfl, rfl, .inl ⟨_, rfl, _, _, rfl, rfl, by show (0 : Int) < 65521; decide, _, _, rfl, rfl, by show (0 : Int) < 997; decide, l, _, _, rfl, rfl, h2, smallLt (by rw [nats_length, List.length_append, List.length_singleton]; omega), ?_⟩⟩
        refine ⟨60, rfl, by decide, by decide, for_range (n := 60) (fun t σ H' => ∃ (m : Int) (rs : Int) (ds' : List Nat) (v4 v5 v7 : Option V), 0 ≤ rs ∧ σ = [some (.ref a), some (.int 400), some (.ref l), some (.int m), v4, v5, some (.int rs), v7] ∧ Same H H' ∧ H' l = some (.lst (nats ds')) ∧ ds'.length ≤ 62 * i + 2 + t)
          ⟨_, 0, (ds ++ [(c % 997).toNat] ++ [(((m * 48271 + c % 1000003 + (0 + (i : Int))) % 65537 * 69621 + 5) % 65521 % 997).toNat]), _, _, _, Int.le_refl 0, rfl, (s1.updAt nl).updAt nl, by rw [upd_same, nats_snoc _ (by omega)], by simp only [List.length_append, List.length_singleton]; omega⟩ ?_ ?_⟩
        · rintro t σ H3 ht ⟨m3, rs, ds3, w4, w5, w7, hrs, rfl, s3, h3, hd3⟩
          refine ⟨_, rfl, _, _, rfl, rfl, _, rfl, ?_⟩
          by_cases hp : 0 < rs
          · refine ifT (decide_eq_true hp) ?_
            refine ⟨_, rfl, .inl ⟨rfl, _, SqL.of h3⟩, _, rfl, .inl ⟨_, rfl, _, _, rfl, rfl, by show (0 : Int) < 997; decide, l, _, _, rfl, rfl, h3, smallLt (by rw [nats_length]; omega), ?_⟩⟩
            refine ⟨_, rfl, _, _, rfl, rfl, ⟨by decide, by decide⟩, ?_⟩
            refine ⟨_, rs / 997, ds3 ++ [(rs % 997).toNat], _, _, _, by omega, rfl, s3.updAt nl, ?_, by rw [List.length_append, List.length_singleton]; omega⟩
            rw [upd_same, nats_snoc _ (by omega)]
          · refine ifF (decide_eq_false hp) ?_
            exact ⟨_, rs, ds3, _, _, _, hrs, rfl, s3, h3, by omega⟩
        · rintro σ H3 ⟨m3, rs, ds3, w4, w5, w7, hrs, rfl, s3, h3, hd3⟩
          exact ⟨_, ds3, _, _, _, _, rfl, s3, h3, by omega⟩
    · rintro σ H1 ⟨m, ds, v4, v5, v6, v7, rfl, s1, h1, hd⟩
      refine ⟨_, rfl, 400, rfl, by decide, by decide, for_range (n := 400) (fun t σ H' => ∃ (m : Int) (ds' : List Nat) (v4 v5 v6 v7 : Option V), σ = [some (.ref a), some (.int 400), some (.ref l), some (.int m), v4, v5, v6, v7] ∧ Same H H' ∧ H' l = some (.lst (nats ds')) ∧ t ≤ ds'.length ∧ ds'.length ≤ 4000 + t)
        ⟨m, ds, v4, v5, v6, v7, rfl, s1, h1, Nat.zero_le _, by omega⟩ ?_ ?_⟩
      · rintro t σ H3 ht ⟨m3, ds3, w4, w5, w6, w7, rfl, s3, h3, hd3, hd4⟩
        refine ⟨_, rfl, _, _, rfl, rfl, hcm _ _ (by decide), _, rfl, _, _, rfl, rfl, _, _, rfl, rfl, .inl ⟨_, rfl, _, _, rfl, rfl, by show (0 : Int) < 65537; decide, ?_⟩⟩
        refine ⟨_, rfl, .inl ⟨rfl, _, SqL.of h3⟩, _, rfl, .inl ⟨_, rfl, _, _, rfl, rfl, by show (0 : Int) < 997; decide, l, _, _, rfl, rfl, h3, smallLt (by rw [nats_length]; omega), ?_⟩⟩
        refine ⟨_, ds3 ++ [((m3 * 16807 + (0 + (t : Int)) + 1) % 65537 % 997).toNat], _, _, _, _, rfl, s3.updAt nl, ?_, by rw [List.length_append, List.length_singleton]; omega, by rw [List.length_append, List.length_singleton]; omega⟩
        rw [upd_same, nats_snoc _ (by omega)]
      · rintro σ H3 ⟨m3, ds3, w4, w5, w6, w7, rfl, s3, h3, hd3, hd4⟩
        refine ⟨_, rfl, _, rfl, 400, rfl, l, _, rfl, SqL.of h3, fun p np => ?_⟩
        have np0 : H p = none := s3.free np
        refine k _ p (ds3.take 400) (s3.updAt np0) np0 ?_ (by rw [List.length_take]; omega)
        rw [upd_same]
        exact congrArg (fun z => some (HO.lst z)) (cut_take ds3 400 hd3)
end
/-! ### the start -/
def spLS (K : PySem.W.Frag) : Sp := fun vs H Q _ => ∃ a, ∃ ns : List Int, vs = [.ref a] ∧ SqL K H a (ns.map V.int) ∧ ns.length ≤ 63 ∧ ∀ H' d r ds, Same H H' → H d = none → Dr d r ds H' → Q (.ref d) H'
section
variable {P : Program} {w : World} {K : PySem.W.Frag} {mg : Str → Option Value} {base : Heap}
abbrev sLS : Stmt := top 39
theorem scLS : FnScope ["_law_script"] ["_law_script"] (defScope sLS) := ⟨rfl, rfl, rfl, by decide +kernel, rfl, by decide +kernel, by decide +kernel⟩
theorem ok_ls {f : Addr} {fd : FuncData} (F : Fun K "_law_start" "_law_start" sLS f fd) (T : Txt w K mg) (cLD : C8.Cal P w K mg base 1 "_law_draws" (spLD K) []) : FnOk P w K mg base CX0 2 f fd ["_law_script"] (spLS K) := by
  refine F.ok scLS (fun vs H Q E h => ?_) (fun cdv A outer s0 H vs Q E hr h => ?_)
  · obtain ⟨a, ns, rfl, _⟩ := h
    rfl
  · obtain ⟨a, ns, rfl, hS, hlen, k⟩ := h
    refine ⟨_, pss_one (ps_ret (pe_disp (pps_cons pe_str (C8.pe_c cLD hr (by decide) (by rfl) (pa_cons (pv 0) (pa_cons pe_int pa_nil))) (pps_cons pe_str pe_int pps_nil)) rfl rfl (by simp) (by decide))), ?_⟩
    intro p np
    have s0' : Same H (upd H p (.dK [])) := Same.upd np
    refine ⟨_, rfl, a, ns, rfl, s0'.seq hS, hlen, fun H1 q ds s1 nq hq hl => ?_⟩
    have h1 : H1 p = some (.dK []) := s1 _ _ upd_same
    refine ⟨h1, [(Sum.inr ("row" : Str), V.ref q), (Sum.inr ("at" : Str), V.int 0)], rfl, by show 2 ≤ 15; decide, ?_⟩
    refine k _ p q ds ((s0'.trans s1).updAt np) np ⟨0, ?_, ?_, hl⟩
    · rw [upd_same, dk_new]
    · rw [upd_ne (fun e => by rw [e, h1] at hq; cases hq)]
      exact hq
end
end L2.KR

namespace L2.KR
open PySem PySem.Spec PyProof.Rows K53
/-! ### steps of displays -/
theorem tup_step {K : PySem.W.Frag} {H : Hp} {vs : List V} {ds : List PyData} {Q : VK} (h : DpAll K H vs ds) (hl : vs.length ≤ 1000) (k : ∀ v H', Same H H' → Dp K H' v (.tuple ds) → Q v H') : vs.length ≤ sizeLine ∧ ∀ p, H p = none → Q (.ref p) (upd H p (.tup vs)) :=
  ⟨small (by omega), fun _ np => k _ _ (Same.upd np) (.tup (SqT.of upd_same) (h.mono (Same.upd np)))⟩
theorem lst_step {K : PySem.W.Frag} {H : Hp} {vs : List V} {ds : List PyData} {Q : VK} (h : DpAll K H vs ds) (hl : vs.length ≤ 1000) (k : ∀ p H', Same H H' → H p = none → H' p = some (.lst vs) → DpAll K H' vs ds → Q (.ref p) H') : vs.length ≤ sizeLine ∧ ∀ p, H p = none → Q (.ref p) (upd H p (.lst vs)) :=
  ⟨small (by omega), fun _ np => k _ _ (Same.upd np) np upd_same (h.mono (Same.upd np))⟩
theorem lt_mod {n m : Nat} (h : 0 < m) : n % m < m := Nat.mod_lt _ h
section
variable {P : Program} {w : World} {K : PySem.W.Frag} {mg : Str → Option Value} {base : Heap}
/-! ### _law_place -/
def vPlace (dt : PyData) : Prop := ∃ n : Nat, n ≤ 10000 ∧ dt = dI n
def pls6 : List Nat := [0, 1, 2, 3, 7, 10000]
abbrev sLP : Stmt := top 40
theorem scLP : FnScope ["_law_d"] ["_law_d"] (defScope sLP) := ⟨rfl, rfl, rfl, by decide +kernel, rfl, by decide +kernel, by decide +kernel⟩
theorem ok_lp {f : Addr} {fd : FuncData} (F : Fun K "_law_place" "_law_place" sLP f fd) (T : Txt w K mg) (cLT : C8.Cal P w K mg base 1 "_law_take" (spDr K vTake) []) : FnOk P w K mg base CX0 2 f fd ["_law_d"] (spDr K vPlace) := by
  refine F.ok scLP (fun vs H Q E h => ?_) (fun cdv A outer s0 H vs Q E hr h => ?_)
  · obtain ⟨d, r, ds, rfl, _⟩ := h
    rfl
  · obtain ⟨d, r, ds, rfl, hd, k⟩ := h
    refine ⟨_, pss_one (ps_ret (pe_ix ix_list (pe_lst (pa_cons pe_int (pa_cons pe_int (pa_cons pe_int (pa_cons pe_int (pa_cons pe_int (pa_cons pe_int pa_nil))))))) (pe_op op_mod (C8.pe_c cLT hr (by decide) (by rfl) (pa_cons (pv 0) pa_nil)) pe_int) (fun _ _ => rfl))), ?_⟩
    refine ⟨by show 6 ≤ sizeLine; decide, fun p np => ?_⟩
    have s1 : Same H (upd H p (.lst (nats pls6))) := Same.upd np
    refine ⟨_, rfl, d, r, ds, rfl, hd.same s1, fun v dt H2 hv d2 b2 hd2 => ?_⟩
    obtain ⟨n, rfl⟩ := hv
    obtain rfl := d2.int_inv
    have h2 : H2 p = some (.lst (nats pls6)) := b2 p _ (hd.ne np) upd_same
    have hlt : n % 6 < pls6.length := lt_mod (by decide)
    have hx : pls6[n % 6]? = some pls6[n % 6] := by simp [hlt]
    refine ⟨_, _, rfl, rfl, by show (0 : Int) < 6; decide, p, _, _, .int ((pls6[n % 6] : Nat) : Int), rfl, rfl, SqL.of h2, at_of (j := n % 6) (by omega) (nats_at hx), ?_⟩
    refine k _ _ H2 ⟨_, ?_, rfl⟩ (.int _) (s1.but.trans b2) hd2
    have key : ∀ z ∈ pls6, z ≤ 10000 := by decide
    exact key _ (List.getElem_mem hlt)
/-! ### _law_places -/
def spLQ (K : PySem.W.Frag) : Sp := fun vs H Q _ => ∃ d r ds, ∃ m : Nat, vs = [.ref d, .int ((m : Nat) : Int)] ∧ m ≤ 16 ∧ Dr d r ds H ∧ ∀ (l : List Nat) v H', l.length ≤ m → (∀ n ∈ l, n ≤ 10000) → Dp K H' v (.tuple (l.map dI)) → But d H H' → Dr d r ds H' → Q v H'
abbrev sLQ : Stmt := top 41
theorem scLQ : FnScope ["_law_d", "_law_most", "_law_k"] ["_law_d", "_law_most"] (defScope sLQ) := ⟨rfl, rfl, rfl, by decide +kernel, rfl, by decide +kernel, by decide +kernel⟩
theorem ok_lq {f : Addr} {fd : FuncData} (F : Fun K "_law_places" "_law_places" sLQ f fd) (T : Txt w K mg) (cLT : C8.Cal P w K mg base 1 "_law_take" (spDr K vTake) []) (cLP : C8.Cal P w K mg base 2 "_law_place" (spDr K vPlace) []) : FnOk P w K mg base CX0 3 f fd ["_law_d", "_law_most"] (spLQ K) := by
  refine F.ok scLQ (fun vs H Q E h => ?_) (fun cdv A outer s0 H vs Q E hr h => ?_)
  · obtain ⟨d, r, ds, m, rfl, _⟩ := h
    rfl
  · obtain ⟨d, r, ds, m, rfl, hm, hd, k⟩ := h
    have hr1 : Room 1 _ := hr.mono (by decide)
    refine ⟨_, pss_one (ps_ret (pe_tupleOf (by rfl) T.tup
        (pe_lc (own := [("_law_k", 2)]) (g := gName 2) (tt := tYes) rfl scLQ.nd (pi_range1 (by rfl) T.range (pa_cons (pe_op op_mod (C8.pe_c cLT hr1 (by decide) (by rfl) (pa_cons (pv 0) pa_nil)) (pe_op op_add (pv 1) pe_int)) pa_nil)) (blkOk_by (N := ["_law_d", "_law_most", "_law_k"]) (sc := defScope sLQ) (by decide +kernel))
          (fun _ _ _ _ _ => pg_name (i := 2) scLQ.nd rfl (Or.inl rfl)) (fun _ _ _ _ _ => pts_nil) (fun _ _ _ _ _ => C8.pe_c cLP hr (by decide) (by rfl) (pa_cons (pv 0) pa_nil))))), ?_⟩
    refine ⟨_, rfl, d, r, ds, rfl, hd, fun v dt H2 hv d2 b2 hd2 => ?_⟩
    obtain ⟨n, rfl⟩ := hv
    obtain rfl := d2.int_inv
    have e1 : (n : Int) % ((m : Int) + 1) = ((n % (m + 1) : Nat) : Int) := by
      rw [Int.natCast_emod]
      rfl
    have hlt : n % (m + 1) < m + 1 := lt_mod (by omega)
    refine ⟨_, rfl, _, _, rfl, rfl, _, _, rfl, rfl, by show (0 : Int) < (m : Int) + 1; omega, ((n % (m + 1) : Nat) : Int), congrArg (fun z => [V.int z]) e1, by omega, by omega, fun D nD => ?_⟩
    refine lc_it walk_range (fun j H' => ∃ l : List Nat, l.length = j ∧ (∀ n ∈ l, n ≤ 10000) ∧ But d H2 H' ∧ Dr d r ds H' ∧ H' D = some (.lst (nats l))) ⟨[], rfl, by simp, (Same.upd nD).but, hd2.same (Same.upd nD), upd_same⟩ (fun _ _ _ _ => trivial) ?_ ?_
    · rintro j x H3 H3' hj ⟨l, hl, hle, b3, hd3, h3⟩ ⟨rfl, rfl⟩
      refine ⟨rfl, _, rfl, d, r, ds, rfl, hd3, fun v dt H4 hv d4 b4 hd4 => ?_⟩
      obtain ⟨z, hz, rfl⟩ := hv
      obtain rfl := d4.int_inv
      have h4 : H4 D = some (.lst (nats l)) := b4 D _ (hd2.ne nD) h3
      refine ⟨_, h4, smallLt (by rw [nats_length]; omega), l ++ [z], by rw [List.length_append, hl]; rfl, ?_, ?_, ?_, ?_⟩
      · intro y hy
        rcases List.mem_append.mp hy with hy | hy
        · exact hle y hy
        · simp at hy
          omega
      · intro c o nc hc
        rw [upd_ne (ne_of_none hc nD)]
        exact b4 c o nc (b3 c o nc hc)
      · exact hd4.upd (hd2.ne nD) (hd2.nr nD)
      · rw [upd_same, nats_app]
        rfl
    · rintro H3 ⟨l, hl, hle, b3, hd3, h3⟩
      refine .inl ⟨D, _, rfl, SqL.of h3, fun q nq => ?_⟩
      have s4 : Same H3 (upd H3 q (.tup (nats l))) := Same.upd nq
      exact k l _ _ (by omega) hle (.tup (SqT.of upd_same) (dp_nats l)) (b2.trans (b3.trans s4.but)) (hd3.same s4)
end
end L2.KR

namespace L2.KR
open PySem PySem.Spec PyProof.Rows K53
/-! ### _law_value -/
def vs7 : List Int := [0, 1, -1, 2 ^ (63 : Int).toNat - 1, -(2 ^ (63 : Int).toNat), 255, 10 ^ (12 : Int).toNat]
theorem vs7_ok : ∀ z ∈ vs7, -2 ^ 63 ≤ z ∧ z < 2 ^ 63 := by decide +kernel
def ts7 : List (List Nat) := [[], [97, 32, 98], List.replicate 32 120, [39], [126, 33], [115, 116, 114, 32, 49, 32, 39, 113], [65, 57, 32]]
theorem ts7_ok : ∀ t ∈ ts7, (∀ c ∈ t, okChar c = true) ∧ t.length ≤ 32 := by decide +kernel
theorem es7 : ([.str "", .str "a b", .str ⟨(List.replicate (32 : Int).toNat ("x" : Str).cps).foldl (· ++ ·) #[]⟩, .str "'", .str "~!", .str "str 1 'q", .str "A9 "] : List V) = (ts7.map SX.S).map V.str := by decide +kernel
def vVal (dt : PyData) : Prop := ∃ x, dt = datP x ∧ typP .value x ∧ okP .value x = true ∧ smallP x
section
variable {P : Program} {w : World} {K : PySem.W.Frag} {mg : Str → Option Value} {base : Heap}
abbrev sLV : Stmt := top 42
theorem scLV : FnScope ["_law_d"] ["_law_d"] (defScope sLV) := ⟨rfl, rfl, rfl, by decide +kernel, rfl, by decide +kernel, by decide +kernel⟩
theorem ok_lv {f : Addr} {fd : FuncData} (F : Fun K "_law_value" "_law_value" sLV f fd) (T : Txt w K mg) (cLT : C8.Cal P w K mg base 1 "_law_take" (spDr K vTake) []) : FnOk P w K mg base CX0 2 f fd ["_law_d"] (spDr K vVal) := by
  refine F.ok scLV (fun vs H Q E h => ?_) (fun cdv A outer s0 H vs Q E hr h => ?_)
  · obtain ⟨d, r, ds, rfl, _⟩ := h
    rfl
  · obtain ⟨d, r, ds, rfl, hd, k⟩ := h
    refine ⟨_, pss_cons (ps_if (pt_cmpR op_eq (pe_op op_mod (C8.pe_c cLT hr (by decide) (by rfl) (pa_cons (pv 0) pa_nil)) pe_int) pe_int (nomark _))
        (pss_one (ps_ret (pe_tup (pa_cons pe_str (pa_cons (pe_ix ix_list (pe_lst (pa_cons pe_int (pa_cons pe_int (pa_cons (pe_un un_neg pe_int) (pa_cons (pe_op op_sub (pe_op op_pow pe_int pe_int) pe_int) (pa_cons (pe_un un_neg (pe_op op_pow pe_int pe_int)) (pa_cons pe_int (pa_cons (pe_op op_pow pe_int pe_int) pa_nil)))))))) (pe_op op_mod (C8.pe_c cLT hr (by decide) (by rfl) (pa_cons (pv 0) pa_nil)) pe_int) (fun _ _ => rfl)) pa_nil))))) pss_nil)
      (pss_one (ps_ret (pe_tup (pa_cons pe_str (pa_cons (pe_ix ix_list (pe_lst (pa_cons pe_str (pa_cons pe_str (pa_cons (pe_op op_mulS pe_str pe_int) (pa_cons pe_str (pa_cons pe_str (pa_cons pe_str (pa_cons pe_str pa_nil)))))))) (pe_op op_mod (C8.pe_c cLT hr (by decide) (by rfl) (pa_cons (pv 0) pa_nil)) pe_int) (fun _ _ => rfl)) pa_nil))))), ?_⟩
    refine ⟨_, rfl, d, r, ds, rfl, hd, fun v dt H1 hv d1 b1 hd1 => ?_⟩
    obtain ⟨n, rfl⟩ := hv
    obtain rfl := d1.int_inv
    refine ⟨_, _, rfl, rfl, by show (0 : Int) < 2; decide, rfl, _, rfl, ?_⟩
    have cp : ∀ i j : Int, 0 ≤ j ∧ j ≤ 1000000 ∧ i.natAbs < 2 ^ 64 → CPow i j := fun i j h => h
    by_cases h2 : (n : Int) % 2 = 0
    · refine ifT (decide_eq_true (congrArg V.int h2)) ?_
      refine ⟨_, rfl, _, _, rfl, rfl, cp _ _ (by decide), _, _, rfl, rfl, _, _, rfl, rfl, cp _ _ (by decide), _, rfl, _, _, rfl, rfl, cp _ _ (by decide), by show 7 ≤ sizeLine; decide, fun p np => ?_⟩
      have s1 : Same H1 (upd H1 p (.lst (vs7.map V.int))) := Same.upd np
      refine ⟨_, rfl, d, r, ds, rfl, hd1.same s1, fun v dt H2 hv d2 b2 hd2 => ?_⟩
      obtain ⟨m, rfl⟩ := hv
      obtain rfl := d2.int_inv
      have hp2 : H2 p = some (.lst (vs7.map V.int)) := b2 p _ (hd1.ne np) upd_same
      have hlt : m % 7 < vs7.length := lt_mod (by decide)
      have hx : vs7[m % 7]? = some vs7[m % 7] := by simp [hlt]
      refine ⟨_, _, rfl, rfl, by show (0 : Int) < 7; decide, p, _, _, .int vs7[m % 7], rfl, rfl, SqL.of hp2, at_of (j := m % 7) (by omega) (by rw [List.getElem?_map, hx]; rfl), ?_⟩
      refine tup_step (K := K) (ds := [.str "int", .int vs7[m % 7]]) (.cons (.str _) (.cons (.int _) .nil)) (by show 2 ≤ 1000; decide) fun v H3 s3 d3 => ?_
      exact k v _ H3 ⟨.val vs7[m % 7], rfl, vs7_ok _ (List.getElem_mem hlt), rfl, trivial⟩ d3 (b1.trans (s1.but.trans (b2.trans s3.but))) (hd2.same s3)
    · refine ifF (decide_eq_false (fun e => h2 (V.int.inj e))) ?_
      refine ⟨_, _, rfl, rfl, by decide, by decide, by decide +kernel, by decide +kernel, small (by decide +kernel), by show 7 ≤ sizeLine; decide, fun p np => ?_⟩
      refine ⟨_, rfl, d, r, ds, rfl, hd1.same (Same.upd np), fun v dt H2 hv d2 b2 hd2 => ?_⟩
      obtain ⟨m, rfl⟩ := hv
      obtain rfl := d2.int_inv
      have hp2 : H2 p = some (.lst ((ts7.map SX.S).map V.str)) := by
        rw [← es7]
        exact b2 p _ (hd1.ne np) upd_same
      have hlt : m % 7 < ts7.length := lt_mod (by decide)
      have hx : ts7[m % 7]? = some ts7[m % 7] := by simp [hlt]
      refine ⟨_, _, rfl, rfl, by show (0 : Int) < 7; decide, p, _, _, .str (SX.S ts7[m % 7]), rfl, rfl, SqL.of hp2, at_of (j := m % 7) (by omega) (by rw [List.getElem?_map, List.getElem?_map, hx]; rfl), ?_⟩
      refine tup_step (K := K) (ds := [.str "str", .str (SX.S ts7[m % 7])]) (.cons (.str _) (.cons (.str _) .nil)) (by show 2 ≤ 1000; decide) fun v H3 s3 d3 => ?_
      have ok7 := ts7_ok _ (List.getElem_mem hlt)
      exact k v _ H3 ⟨.txt ts7[m % 7], rfl, ok7.1, decide_eq_true ok7.2, ok7.2⟩ d3 (b1.trans ((Same.upd np).but.trans (b2.trans s3.but))) (hd2.same s3)
end
end L2.KR

namespace L2.KR
open PySem PySem.Spec PyProof.Rows K53
/-! ### _law_row -/
/-- what is done while a code is drawn: only d changes -/
structure Gs (K : PySem.W.Frag) (d r : Addr) (ds : List Nat) (H H' : Hp) : Prop where
  b : But d H H'
  dr : Dr d r ds H'
  kt : KeepT K H H'
section
variable {K : PySem.W.Frag} {d r : Addr} {ds : List Nat} {H H1 H2 : Hp}
theorem Gs.refl (h : Dr d r ds H) : Gs K d r ds H H := ⟨But.refl d H, h, fun _ _ q => q⟩
theorem Gs.trans (a : Gs K d r ds H H1) (b : Gs K d r ds H1 H2) : Gs K d r ds H H2 := ⟨a.b.trans b.b, b.dr, a.kt.trans b.kt⟩
theorem Gs.same (a : Gs K d r ds H H1) (s : Same H1 H2) : Gs K d r ds H H2 := ⟨a.b.trans s.but, a.dr.same s, a.kt.trans (.of_same s)⟩
theorem Gs.but (a : Gs K d r ds H H1) (s : But d H1 H2) (h : Dr d r ds H2) : Gs K d r ds H H2 := ⟨a.b.trans s, h, a.kt.trans (.of_dr s a.dr)⟩
end
/-- the parts of the sorts, small ones -/
def smps : List Srt → List Prt → Prop
  | [], [] => True
  | s :: ss, p :: ps => (typP s p ∧ okP s p = true ∧ smallP p) ∧ smps ss ps
  | _, _ => False
theorem smps_typ : ∀ {ss : List Srt} {ps : List Prt}, smps ss ps → TypPs ss ps ∧ okPs ss ps = true ∧ ∀ p ∈ ps, smallP p
  | [], [], _ => ⟨⟨rfl, fun i p h => by simp at h⟩, rfl, fun p h => by cases h⟩
  | s :: ss, p :: ps, h => by
    obtain ⟨⟨h1, h2, h3⟩, h4⟩ := h
    obtain ⟨⟨a1, a2⟩, a3, a4⟩ := smps_typ h4
    refine ⟨⟨by rw [List.length_cons, List.length_cons, a1], fun i q hq => ?_⟩, ?_, fun q hq => ?_⟩
    · cases i with
      | zero =>
        simp at hq
        subst hq
        exact h1
      | succ i => exact a2 i q (by simpa using hq)
    · show (okP s p && okPs ss ps) = true
      rw [h2, a3]
      rfl
    · rcases List.mem_cons.mp hq with rfl | hq
      · exact h3
      · exact a4 q hq
  | [], _ :: _, h => h.elim
  | _ :: _, [], h => h.elim
theorem smallR_of {j : Nat} {ps : List Prt} (hj : j < 32) (h : smps (srt j) ps) : SmallR (j, ps) :=
  ⟨⟨hj, (smps_typ h).1⟩, (smps_typ h).2.1, (smps_typ h).2.2⟩
def vRow (dt : PyData) : Prop := ∃ row, SmallR row ∧ dt = datR row
theorem smn : smps [] [] := trivial
theorem smc {s : Srt} {ss : List Srt} {p : Prt} {ps : List Prt} (h : typP s p ∧ okP s p = true ∧ smallP p) (r : smps ss ps) : smps (s :: ss) (p :: ps) := ⟨h, r⟩
theorem p_w0 {j : Nat} (h : j < 6) : typP .word (.wrd 0 j) ∧ okP .word (.wrd 0 j) = true ∧ smallP (.wrd 0 j) := ⟨⟨rfl, h⟩, rfl, trivial⟩
theorem p_w1 {j : Nat} (h : j < 5) : typP .sign (.wrd 1 j) ∧ okP .sign (.wrd 1 j) = true ∧ smallP (.wrd 1 j) := ⟨⟨rfl, h⟩, rfl, trivial⟩
theorem p_w2 {j : Nat} (h : j < 6) : typP .compare (.wrd 2 j) ∧ okP .compare (.wrd 2 j) = true ∧ smallP (.wrd 2 j) := ⟨⟨rfl, h⟩, rfl, trivial⟩
theorem p_w3 {j : Nat} (h : j < 2) : typP .sort (.wrd 3 j) ∧ okP .sort (.wrd 3 j) = true ∧ smallP (.wrd 3 j) := ⟨⟨rfl, h⟩, rfl, trivial⟩
theorem p_d {n : Int} (h0 : 0 ≤ n) (h : n < 8) : typP .d (.reg n) ∧ okP .d (.reg n) = true ∧ smallP (.reg n) := ⟨⟨h0, by omega⟩, by show (decide (0 ≤ n) && decide (n ≤ 7)) = true; rw [decide_eq_true h0, decide_eq_true (by omega)]; rfl, trivial⟩
theorem p_a {n : Int} (h0 : 0 ≤ n) (h : n < 8) : typP .a (.reg n) ∧ okP .a (.reg n) = true ∧ smallP (.reg n) := p_d h0 h
theorem p_k {n : Int} (h0 : 0 ≤ n) (h : n < 4) : typP .k (.reg n) ∧ okP .k (.reg n) = true ∧ smallP (.reg n) := ⟨⟨h0, by omega⟩, by show (decide (0 ≤ n) && decide (n ≤ 3)) = true; rw [decide_eq_true h0, decide_eq_true (by omega)]; rfl, trivial⟩
theorem p_mb {n : Int} (h0 : -1 ≤ n) (h : n < 8) : typP .mb (.reg n) ∧ okP .mb (.reg n) = true ∧ smallP (.reg n) := by
  refine ⟨⟨h0, by omega⟩, ?_, trivial⟩
  show ((decide (0 ≤ n) && decide (n ≤ 7)) || decide (n = -1)) = true
  by_cases e : n = -1
  · rw [decide_eq_true e, Bool.or_true]
  · rw [decide_eq_true (show 0 ≤ n by omega), decide_eq_true (show n ≤ 7 by omega)]
    rfl
theorem p_p {n : Nat} (h : n ≤ 10000) : typP .p (.cnt n) ∧ okP .p (.cnt n) = true ∧ smallP (.cnt n) := ⟨trivial, rfl, h⟩
theorem p_i {n : Nat} (h : n ≤ 10000) : typP .i (.cnt n) ∧ okP .i (.cnt n) = true ∧ smallP (.cnt n) := ⟨trivial, rfl, h⟩
theorem p_t {n : Nat} (h : n ≤ 10000) : typP .t (.cnt n) ∧ okP .t (.cnt n) = true ∧ smallP (.cnt n) := ⟨trivial, rfl, h⟩
theorem p_keys {l : List Nat} (h : l.length ≤ 16) (h2 : ∀ n ∈ l, n ≤ 10000) : typP .keys (.pls l) ∧ okP .keys (.pls l) = true ∧ smallP (.pls l) := ⟨trivial, rfl, h, h2⟩
theorem p_mems {l : List Nat} (h : l.length ≤ 16) (h2 : ∀ n ∈ l, n ≤ 10000) : typP .members (.pls l) ∧ okP .members (.pls l) = true ∧ smallP (.pls l) := ⟨trivial, rfl, h, h2⟩
theorem cws_at {c j : Nat} (h : j < (cws c).length) : ((cws c).map V.str)[j]? = some (.str (cw c j)) := by
  rw [List.getElem?_map, cw_here h]
  rfl
theorem at_lst {K : PySem.W.Frag} {H : Hp} {vs : List V} {ds : List PyData} (h : DpAll K H vs ds) {j : Nat} (hj : j < ds.length) : ∃ v, ∃ dt ∈ ds, vs[j]? = some v ∧ Dp K H v dt := by
  obtain ⟨v, h1, h2⟩ := h.getD (i := j) (d := ds[j]) (by simp [hj])
  exact ⟨v, ds[j], List.getElem_mem hj, h1, h2⟩
section
variable {P : Program} {w : World} {K : PySem.W.Frag} {mg : Str → Option Value} {base : Heap}
def spLR (K : PySem.W.Frag) : Sp := fun vs H Q _ => ∃ d r ds, ∃ m : Nat, vs = [.ref d, .int ((m : Nat) : Int)] ∧ 1 ≤ m ∧ m ≤ 14 ∧ Dr d r ds H ∧ ∀ row v H', SmallR row → Dp K H' v (datR row) → Gs K d r ds H H' → Q v H'
abbrev sLR : Stmt := top 43
theorem scLR : FnScope ["_law_d", "_law_many", "_law_one", "_law_two", "_law_turn", "_law_at", "_law_three", "_law_words", "_law_rows"] ["_law_d", "_law_many"] (defScope sLR) := ⟨rfl, rfl, rfl, by decide +kernel, rfl, by decide +kernel, by decide +kernel⟩
theorem ok_lr {f : Addr} {fd : FuncData} (F : Fun K "_law_row" "_law_row" sLR f fd) (T : Txt w K mg) (cLT : C8.Cal P w K mg base 1 "_law_take" (spDr K vTake) []) (cLP : C8.Cal P w K mg base 2 "_law_place" (spDr K vPlace) []) (cLQ : C8.Cal P w K mg base 3 "_law_places" (spLQ K) []) (cLV : C8.Cal P w K mg base 2 "_law_value" (spDr K vVal) []) : FnOk P w K mg base CX0 4 f fd ["_law_d", "_law_many"] (spLR K) := by
  refine F.ok scLR (fun vs H Q E h => ?_) (fun cdv A outer s0 H vs Q E hr h => ?_)
  · obtain ⟨d, r, ds, m, rfl, _⟩ := h
    rfl
  · obtain ⟨d, r, ds, m, rfl, hm1, hm2, hd, k⟩ := h
    have hr1 : Room 1 _ := hr.mono (by decide)
    have hr2 : Room 2 _ := hr.mono (by decide)
    refine ⟨_, (pss_cons (ps_set (i := 2) scLR.nd rfl (Or.inl rfl) (pe_op op_mod (C8.pe_c cLT hr1 (by decide) (by rfl) (pa_cons (pv 0) pa_nil)) pe_int)) (pss_cons (ps_set (i := 3) scLR.nd rfl (Or.inl rfl) (pe_op op_mod (C8.pe_c cLT hr1 (by decide) (by rfl) (pa_cons (pv 0) pa_nil)) pe_int)) (pss_cons (ps_set (i := 4) scLR.nd rfl (Or.inl rfl) (pe_op op_mod (C8.pe_c cLT hr1 (by decide) (by rfl) (pa_cons (pv 0) pa_nil)) pe_int)) (pss_cons (ps_set (i := 5) scLR.nd rfl (Or.inl rfl) (C8.pe_c cLP hr2 (by decide) (by rfl) (pa_cons (pv 0) pa_nil))) (pss_cons (ps_if (pt_cmpR op_lt (pv 4) pe_int (nomark _)) (pss_one (ps_ret (pe_ix ix_list (pe_lst (pa_cons (pe_tup (pa_cons pe_str (pa_cons (pv 2) (pa_cons (C8.pe_c cLV hr2 (by decide) (by rfl) (pa_cons (pv 0) pa_nil)) pa_nil)))) (pa_cons (pe_tup (pa_cons pe_str (pa_cons (pv 2) (pa_cons (pe_ix ix_list (pe_lst (pa_cons pe_str (pa_cons pe_str (pa_cons pe_str (pa_cons pe_str (pa_cons pe_str (pa_cons pe_str pa_nil))))))) (pe_op op_mod (pv 3) pe_int) (fun _ _ => rfl)) pa_nil)))) (pa_cons (pe_tup (pa_cons pe_str (pa_cons (pv 2) (pa_cons (pe_op op_mod (pv 3) pe_int) pa_nil)))) (pa_cons (pe_tup (pa_cons pe_str (pa_cons (pv 2) (pa_cons (pe_op op_mod (pv 3) pe_int) pa_nil)))) pa_nil))))) (pv 4) (fun _ _ => rfl)))) pss_nil) (pss_cons (ps_if (pt_cmpR op_lt (pv 4) pe_int (nomark _)) (pss_one (ps_ret (pe_ix ix_list (pe_lst (pa_cons (pe_tup (pa_cons pe_str (pa_cons (pv 2) (pa_cons (pv 5) pa_nil)))) (pa_cons (pe_tup (pa_cons pe_str (pa_cons (pv 5) (pa_cons (pv 2) pa_nil)))) (pa_cons (pe_tup (pa_cons pe_str (pa_cons (pv 2) (pa_cons (pv 5) pa_nil)))) (pa_cons (pe_tup (pa_cons pe_str (pa_cons (pv 2) (pa_cons (pv 5) pa_nil)))) (pa_cons (pe_tup (pa_cons pe_str (pa_cons (pv 2) (pa_cons (pv 5) (pa_cons (C8.pe_c cLQ hr (by decide) (by rfl) (pa_cons (pv 0) (pa_cons pe_int pa_nil))) pa_nil))))) pa_nil)))))) (pe_op op_sub (pv 4) pe_int) (fun _ _ => rfl)))) pss_nil) (pss_cons (ps_set (i := 6) scLR.nd rfl (Or.inl rfl) (pe_op op_mod (C8.pe_c cLT hr1 (by decide) (by rfl) (pa_cons (pv 0) pa_nil)) pe_int)) (pss_cons (ps_if (pt_cmpR op_lt (pv 4) pe_int (nomark _)) (pss_cons (ps_set (i := 7) scLR.nd rfl (Or.inl rfl) (pe_ix ix_list (pe_lst (pa_cons (pe_lst (pa_cons pe_str (pa_cons pe_str (pa_cons pe_str (pa_cons pe_str (pa_cons pe_str pa_nil)))))) (pa_cons (pe_lst (pa_cons pe_str (pa_cons pe_str (pa_cons pe_str (pa_cons pe_str (pa_cons pe_str (pa_cons pe_str pa_nil))))))) pa_nil))) (pe_op op_sub (pv 4) pe_int) (fun _ _ => rfl))) (pss_one (ps_ret (pe_tup (pa_cons (pe_ix ix_list (pe_lst (pa_cons pe_str (pa_cons pe_str pa_nil))) (pe_op op_sub (pv 4) pe_int) (fun _ _ => rfl)) (pa_cons (pv 2) (pa_cons (pe_ix ix_list (pv 7) (pe_op op_mod (pv 6) (pe_callB call_len_seq (by rfl) T.len PySem.boot_len (pa_cons (pv 7) pa_nil))) (fun _ _ => rfl)) (pa_cons (pv 3) (pa_cons (pv 6) pa_nil))))))))) pss_nil) (pss_cons (ps_if (pt_cmpR op_lt (pv 4) pe_int (nomark _)) (pss_cons (ps_set (i := 8) scLR.nd rfl (Or.inl rfl) (pe_lst (pa_cons (pe_tup (pa_cons pe_str (pa_cons (pv 2) (pa_cons (pv 3) pa_nil)))) (pa_cons (pe_tup (pa_cons pe_str (pa_cons (pv 2) (pa_cons (pv 3) pa_nil)))) (pa_cons (pe_tup (pa_cons pe_str (pa_cons (pv 2) (pa_cons (pv 3) pa_nil)))) (pa_cons (pe_tup (pa_cons pe_str (pa_cons (pv 2) (pa_cons (pv 3) (pa_cons (pv 6) pa_nil))))) (pa_cons (pe_tup (pa_cons pe_str (pa_cons (pv 2) (pa_cons (pv 3) (pa_cons (pv 6) (pa_cons (pv 2) pa_nil)))))) pa_nil))))))) (pss_one (ps_ret (pe_ix ix_list (pe_op op_cat (pv 8) (pe_lst (pa_cons (pe_tup (pa_cons pe_str (pa_cons (pv 2) (pa_cons (pv 3) pa_nil)))) (pa_cons (pe_tup (pa_cons pe_str (pa_cons (pv 2) (pa_cons (pv 3) pa_nil)))) pa_nil)))) (pe_op op_sub (pv 4) pe_int) (fun _ _ => rfl))))) pss_nil) (pss_cons (ps_if (pt_cmpR op_lt (pv 4) pe_int (nomark _)) (pss_one (ps_ret (pe_ix ix_list (pe_lst (pa_cons (pe_tup (pa_cons pe_str (pa_cons (pv 2) pa_nil))) (pa_cons (pe_tup (pa_cons pe_str (pa_cons (pe_op op_mod (C8.pe_c cLT hr1 (by decide) (by rfl) (pa_cons (pv 0) pa_nil)) (pv 1)) pa_nil))) (pa_cons (pe_tup (pa_cons pe_str (pa_cons (pv 2) (pa_cons (pe_op op_mod (C8.pe_c cLT hr1 (by decide) (by rfl) (pa_cons (pv 0) pa_nil)) (pv 1)) pa_nil)))) pa_nil)))) (pe_op op_sub (pv 4) pe_int) (fun _ _ => rfl)))) pss_nil) (pss_cons (ps_if (pt_cmpR op_lt (pv 4) pe_int (nomark _)) (pss_cons (ps_set (i := 8) scLR.nd rfl (Or.inl rfl) (pe_lst (pa_cons (pe_tup (pa_cons pe_str (pa_cons (pv 5) (pa_cons (pv 2) pa_nil)))) (pa_cons (pe_tup (pa_cons pe_str (pa_cons (pv 5) (pa_cons (pv 2) pa_nil)))) (pa_cons (pe_tup (pa_cons pe_str (pa_cons (pv 5) (pa_cons (C8.pe_c cLQ hr (by decide) (by rfl) (pa_cons (pv 0) (pa_cons pe_int pa_nil))) (pa_cons (pv 2) pa_nil))))) pa_nil))))) (pss_one (ps_ret (pe_ix ix_list (pe_op op_cat (pv 8) (pe_lst (pa_cons (pe_tup (pa_cons pe_str (pa_cons (pe_ix ix_list (pe_lst (pa_cons pe_str (pa_cons pe_str pa_nil))) (pe_op op_mod (pv 3) pe_int) (fun _ _ => rfl)) (pa_cons (C8.pe_c cLQ hr (by decide) (by rfl) (pa_cons (pv 0) (pa_cons pe_int pa_nil))) pa_nil)))) pa_nil))) (pe_op op_sub (pv 4) pe_int) (fun _ _ => rfl))))) pss_nil) (pss_cons (ps_if (pt_cmpR op_eq (pv 4) pe_int (nomark _)) (pss_one (ps_ret (pe_tup (pa_cons pe_str (pa_cons (pv 5) (pa_cons (C8.pe_c cLQ hr (by decide) (by rfl) (pa_cons (pv 0) (pa_cons pe_int pa_nil))) (pa_cons (pe_op op_sub (pe_op op_mod (C8.pe_c cLT hr1 (by decide) (by rfl) (pa_cons (pv 0) pa_nil)) pe_int) pe_int) pa_nil))))))) pss_nil) (pss_one (ps_ret (pe_ix ix_list (pe_lst (pa_cons (pe_tup (pa_cons pe_str (pa_cons (pv 2) pa_nil))) (pa_cons (pe_tup (pa_cons pe_str (pa_cons (pv 2) pa_nil))) (pa_cons (pe_tup (pa_cons pe_str (pa_cons (pv 2) pa_nil))) (pa_cons (pe_tup (pa_cons pe_str pa_nil)) (pa_cons (pe_tup (pa_cons pe_str pa_nil)) (pa_cons (pe_tup (pa_cons pe_str pa_nil)) pa_nil))))))) (pe_op op_sub (pv 4) pe_int) (fun _ _ => rfl)))))))))))))))), ?_⟩
    have g0 : Gs K d r ds H H := .refl hd
    refine ⟨_, rfl, d, r, ds, rfl, g0.dr, fun v dt H1 hv d1 b1 hd1 => ?_⟩
    have g1 := g0.but b1 hd1
    obtain ⟨x1, rfl⟩ := hv
    obtain rfl := d1.int_inv
    clear b1 hd1 d1
    refine ⟨_, _, rfl, rfl, by show (0 : Int) < 8; decide, _, rfl, d, r, ds, rfl, g1.dr, fun v dt H2 hv d2 b2 hd2 => ?_⟩
    have g2 := g1.but b2 hd2
    obtain ⟨x2, rfl⟩ := hv
    obtain rfl := d2.int_inv
    clear b2 hd2 d2
    refine ⟨_, _, rfl, rfl, by show (0 : Int) < 8; decide, _, rfl, d, r, ds, rfl, g2.dr, fun v dt H3 hv d3 b3 hd3 => ?_⟩
    have g3 := g2.but b3 hd3
    obtain ⟨x3, rfl⟩ := hv
    obtain rfl := d3.int_inv
    clear b3 hd3 d3
    refine ⟨_, _, rfl, rfl, by show (0 : Int) < 32; decide, _, rfl, d, r, ds, rfl, g3.dr, fun v dt H4 hv d4 b4 hd4 => ?_⟩
    have g4 := g3.but b4 hd4
    obtain ⟨x4, hx4, rfl⟩ := hv
    obtain rfl := d4.int_inv
    clear b4 hd4 d4
    have n1 : 0 ≤ (x1 : Int) % 8 ∧ (x1 : Int) % 8 < 8 := by omega
    have n2 : 0 ≤ (x2 : Int) % 8 ∧ (x2 : Int) % 8 < 8 := by omega
    obtain ⟨t, ht, et⟩ : ∃ t : Nat, t < 32 ∧ (x3 : Int) % 32 = (t : Int) := ⟨x3 % 32, by omega, by omega⟩
    refine ⟨_, rfl, _, _, rfl, rfl, _, rfl, ?_⟩
    by_cases c4 : (x3 : Int) % 32 < 4
    · refine ifT (decide_eq_true c4) ?_
      refine ⟨_, rfl, _, rfl, d, r, ds, rfl, g4.dr, fun w11 dt11 H11 hv11 d11 b11 hd11 => ?_⟩
      obtain ⟨y11, rfl, hx11, hy11, hz11⟩ := hv11
      have kt11 : KeepT K H4 H11 := .of_dr b11 g4.dr
      have g11 := g4.but b11 hd11
      refine ⟨by show 3 ≤ sizeLine; decide, fun p12 m12 => ?_⟩
      have s12 : Same H11 (upd H11 p12 (.tup [.str "const", .int ((x1 : Int) % 8), w11])) := Same.upd m12
      have t12 : Dp K (upd H11 p12 (.tup [.str "const", .int ((x1 : Int) % 8), w11])) (.ref p12) (datR (0, [.reg ((x1 : Int) % 8), y11])) := .tup (SqT.of upd_same) (.cons (.str _) (.cons (.int _) (.cons (d11.mono s12) .nil)))
      generalize upd H11 p12 (.tup [.str "const", .int ((x1 : Int) % 8), w11]) = H12 at s12 t12 ⊢
      have g12 := g11.same s12
      refine ⟨_, rfl, by show 6 ≤ sizeLine; decide, fun p13 m13 => ?_⟩
      have s13 : Same H12 (upd H12 p13 (.lst [.str "now", .str "cpu", .str "pid", .str "tid", .str "at", .str "name"])) := Same.upd m13
      have l13 : (upd H12 p13 (.lst [.str "now", .str "cpu", .str "pid", .str "tid", .str "at", .str "name"])) p13 = some (.lst ((cws 0).map V.str)) := upd_same
      generalize upd H12 p13 (.lst [.str "now", .str "cpu", .str "pid", .str "tid", .str "at", .str "name"]) = H13 at s13 l13 ⊢
      have g13 := g12.same s13
      replace t12 := t12.mono s13
      refine ⟨_, rfl, _, _, rfl, rfl, by show (0 : Int) < 6; decide, p13, _, _, .str (cw 0 (x2 % 8 % 6)), rfl, rfl, SqL.of l13, at_of (j := x2 % 8 % 6) (by show (x2 : Int) % 8 % 6 = _; omega) (cws_at (by show x2 % 8 % 6 < 6; omega)), by show 3 ≤ sizeLine; decide, fun p14 m14 => ?_⟩
      have s14 : Same H13 (upd H13 p14 (.tup [.str "view", .int ((x1 : Int) % 8), .str (cw 0 (x2 % 8 % 6))])) := Same.upd m14
      have t14 : Dp K (upd H13 p14 (.tup [.str "view", .int ((x1 : Int) % 8), .str (cw 0 (x2 % 8 % 6))])) (.ref p14) (datR (1, [.reg ((x1 : Int) % 8), .wrd 0 (x2 % 8 % 6)])) := .tup (SqT.of upd_same) (.cons (.str _) (.cons (.int _) (.cons (.str _) .nil)))
      generalize upd H13 p14 (.tup [.str "view", .int ((x1 : Int) % 8), .str (cw 0 (x2 % 8 % 6))]) = H14 at s14 t14 ⊢
      have g14 := g13.same s14
      replace t12 := t12.mono s14
      replace l13 := s14 _ _ l13
      refine ⟨_, rfl, _, rfl, _, _, rfl, rfl, by show (0 : Int) < 4; decide, by show 3 ≤ sizeLine; decide, fun p15 m15 => ?_⟩
      have s15 : Same H14 (upd H14 p15 (.tup [.str "arg", .int ((x1 : Int) % 8), .int ((x2 : Int) % 8 % 4)])) := Same.upd m15
      have t15 : Dp K (upd H14 p15 (.tup [.str "arg", .int ((x1 : Int) % 8), .int ((x2 : Int) % 8 % 4)])) (.ref p15) (datR (2, [.reg ((x1 : Int) % 8), .reg ((x2 : Int) % 8 % 4)])) := .tup (SqT.of upd_same) (.cons (.str _) (.cons (.int _) (.cons (.int _) .nil)))
      generalize upd H14 p15 (.tup [.str "arg", .int ((x1 : Int) % 8), .int ((x2 : Int) % 8 % 4)]) = H15 at s15 t15 ⊢
      have g15 := g14.same s15
      replace t12 := t12.mono s15
      replace t14 := t14.mono s15
      refine ⟨_, rfl, _, rfl, _, _, rfl, rfl, by show (0 : Int) < 4; decide, by show 3 ≤ sizeLine; decide, fun p16 m16 => ?_⟩
      have s16 : Same H15 (upd H15 p16 (.tup [.str "reg", .int ((x1 : Int) % 8), .int ((x2 : Int) % 8 % 4)])) := Same.upd m16
      have t16 : Dp K (upd H15 p16 (.tup [.str "reg", .int ((x1 : Int) % 8), .int ((x2 : Int) % 8 % 4)])) (.ref p16) (datR (3, [.reg ((x1 : Int) % 8), .reg ((x2 : Int) % 8 % 4)])) := .tup (SqT.of upd_same) (.cons (.str _) (.cons (.int _) (.cons (.int _) .nil)))
      generalize upd H15 p16 (.tup [.str "reg", .int ((x1 : Int) % 8), .int ((x2 : Int) % 8 % 4)]) = H16 at s16 t16 ⊢
      have g16 := g15.same s16
      replace t12 := t12.mono s16
      replace t14 := t14.mono s16
      replace t15 := t15.mono s16
      refine ⟨by show 4 ≤ sizeLine; decide, fun p17 m17 => ?_⟩
      have s17 : Same H16 (upd H16 p17 (.lst [.ref p12, .ref p14, .ref p15, .ref p16])) := Same.upd m17
      have a17 : DpAll K (upd H16 p17 (.lst [.ref p12, .ref p14, .ref p15, .ref p16])) [.ref p12, .ref p14, .ref p15, .ref p16] [datR (0, [.reg ((x1 : Int) % 8), y11]), datR (1, [.reg ((x1 : Int) % 8), .wrd 0 (x2 % 8 % 6)]), datR (2, [.reg ((x1 : Int) % 8), .reg ((x2 : Int) % 8 % 4)]), datR (3, [.reg ((x1 : Int) % 8), .reg ((x2 : Int) % 8 % 4)])] := (.cons (t12.mono s17) (.cons (t14.mono s17) (.cons (t15.mono s17) (.cons (t16.mono s17) .nil))))
      have l17 : (upd H16 p17 (.lst [.ref p12, .ref p14, .ref p15, .ref p16])) p17 = some (.lst [.ref p12, .ref p14, .ref p15, .ref p16]) := upd_same
      generalize upd H16 p17 (.lst [.ref p12, .ref p14, .ref p15, .ref p16]) = H17 at s17 a17 l17 ⊢
      have g17 := g16.same s17
      obtain ⟨vv, dt, hdt, hvv, dvv⟩ := at_lst a17 (j := t) (by show t < 4; omega)
      refine ⟨_, rfl, p17, _, _, vv, rfl, rfl, SqL.of l17, at_of (j := t) (by show (x3 : Int) % 32 = ((t : Nat) : Int); omega) hvv, ?_⟩
      obtain ⟨row, hs, rfl⟩ : ∃ row, SmallR row ∧ dt = datR row := by
        simp only [List.mem_cons, List.not_mem_nil, or_false, List.mem_append, List.cons_append, List.nil_append] at hdt
        rcases hdt with rfl | rfl | rfl | rfl
        · exact ⟨(0, [.reg ((x1 : Int) % 8), y11]), smallR_of (by decide) (smc (p_d n1.1 n1.2) (smc ⟨hx11, hy11, hz11⟩ (smn))), rfl⟩
        · exact ⟨(1, [.reg ((x1 : Int) % 8), .wrd 0 (x2 % 8 % 6)]), smallR_of (by decide) (smc (p_d n1.1 n1.2) (smc (p_w0 (by omega)) (smn))), rfl⟩
        · exact ⟨(2, [.reg ((x1 : Int) % 8), .reg ((x2 : Int) % 8 % 4)]), smallR_of (by decide) (smc (p_d n1.1 n1.2) (smc (p_k (by omega) (by omega)) (smn))), rfl⟩
        · exact ⟨(3, [.reg ((x1 : Int) % 8), .reg ((x2 : Int) % 8 % 4)]), smallR_of (by decide) (smc (p_d n1.1 n1.2) (smc (p_k (by omega) (by omega)) (smn))), rfl⟩
      exact k row vv _ hs dvv g17
    refine ifF (decide_eq_false c4) ?_
    refine ⟨_, rfl, _, _, rfl, rfl, _, rfl, ?_⟩
    by_cases c9 : (x3 : Int) % 32 < 9
    · refine ifT (decide_eq_true c9) ?_
      refine ⟨_, rfl, _, rfl, by show 3 ≤ sizeLine; decide, fun p11 m11 => ?_⟩
      have s11 : Same H4 (upd H4 p11 (.tup [.str "get", .int ((x1 : Int) % 8), .int ((x4 : Nat) : Int)])) := Same.upd m11
      have t11 : Dp K (upd H4 p11 (.tup [.str "get", .int ((x1 : Int) % 8), .int ((x4 : Nat) : Int)])) (.ref p11) (datR (4, [.reg ((x1 : Int) % 8), .cnt x4])) := .tup (SqT.of upd_same) (.cons (.str _) (.cons (.int _) (.cons (.int _) .nil)))
      generalize upd H4 p11 (.tup [.str "get", .int ((x1 : Int) % 8), .int ((x4 : Nat) : Int)]) = H11 at s11 t11 ⊢
      have g11 := g4.same s11
      refine ⟨_, rfl, _, rfl, by show 3 ≤ sizeLine; decide, fun p12 m12 => ?_⟩
      have s12 : Same H11 (upd H11 p12 (.tup [.str "keep", .int ((x4 : Nat) : Int), .int ((x1 : Int) % 8)])) := Same.upd m12
      have t12 : Dp K (upd H11 p12 (.tup [.str "keep", .int ((x4 : Nat) : Int), .int ((x1 : Int) % 8)])) (.ref p12) (datR (5, [.cnt x4, .reg ((x1 : Int) % 8)])) := .tup (SqT.of upd_same) (.cons (.str _) (.cons (.int _) (.cons (.int _) .nil)))
      generalize upd H11 p12 (.tup [.str "keep", .int ((x4 : Nat) : Int), .int ((x1 : Int) % 8)]) = H12 at s12 t12 ⊢
      have g12 := g11.same s12
      replace t11 := t11.mono s12
      refine ⟨_, rfl, _, rfl, by show 3 ≤ sizeLine; decide, fun p13 m13 => ?_⟩
      have s13 : Same H12 (upd H12 p13 (.tup [.str "global", .int ((x1 : Int) % 8), .int ((x4 : Nat) : Int)])) := Same.upd m13
      have t13 : Dp K (upd H12 p13 (.tup [.str "global", .int ((x1 : Int) % 8), .int ((x4 : Nat) : Int)])) (.ref p13) (datR (6, [.reg ((x1 : Int) % 8), .cnt x4])) := .tup (SqT.of upd_same) (.cons (.str _) (.cons (.int _) (.cons (.int _) .nil)))
      generalize upd H12 p13 (.tup [.str "global", .int ((x1 : Int) % 8), .int ((x4 : Nat) : Int)]) = H13 at s13 t13 ⊢
      have g13 := g12.same s13
      replace t11 := t11.mono s13
      replace t12 := t12.mono s13
      refine ⟨_, rfl, _, rfl, by show 3 ≤ sizeLine; decide, fun p14 m14 => ?_⟩
      have s14 : Same H13 (upd H13 p14 (.tup [.str "thread", .int ((x1 : Int) % 8), .int ((x4 : Nat) : Int)])) := Same.upd m14
      have t14 : Dp K (upd H13 p14 (.tup [.str "thread", .int ((x1 : Int) % 8), .int ((x4 : Nat) : Int)])) (.ref p14) (datR (7, [.reg ((x1 : Int) % 8), .cnt x4])) := .tup (SqT.of upd_same) (.cons (.str _) (.cons (.int _) (.cons (.int _) .nil)))
      generalize upd H13 p14 (.tup [.str "thread", .int ((x1 : Int) % 8), .int ((x4 : Nat) : Int)]) = H14 at s14 t14 ⊢
      have g14 := g13.same s14
      replace t11 := t11.mono s14
      replace t12 := t12.mono s14
      replace t13 := t13.mono s14
      refine ⟨_, rfl, _, rfl, _, rfl, d, r, ds, 3, rfl, by decide, g14.dr, fun y15 w15 H15 hl15 hle15 d15 b15 hd15 => ?_⟩
      have kt15 : KeepT K H14 H15 := .of_dr b15 g14.dr
      have g15 := g14.but b15 hd15
      replace t11 := dp_keep kt15 (noL_datR _) t11
      replace t12 := dp_keep kt15 (noL_datR _) t12
      replace t13 := dp_keep kt15 (noL_datR _) t13
      replace t14 := dp_keep kt15 (noL_datR _) t14
      refine ⟨by show 4 ≤ sizeLine; decide, fun p16 m16 => ?_⟩
      have s16 : Same H15 (upd H15 p16 (.tup [.str "array", .int ((x1 : Int) % 8), .int ((x4 : Nat) : Int), w15])) := Same.upd m16
      have t16 : Dp K (upd H15 p16 (.tup [.str "array", .int ((x1 : Int) % 8), .int ((x4 : Nat) : Int), w15])) (.ref p16) (datR (8, [.reg ((x1 : Int) % 8), .cnt x4, .pls y15])) := .tup (SqT.of upd_same) (.cons (.str _) (.cons (.int _) (.cons (.int _) (.cons (d15.mono s16) .nil))))
      generalize upd H15 p16 (.tup [.str "array", .int ((x1 : Int) % 8), .int ((x4 : Nat) : Int), w15]) = H16 at s16 t16 ⊢
      have g16 := g15.same s16
      replace t11 := t11.mono s16
      replace t12 := t12.mono s16
      replace t13 := t13.mono s16
      replace t14 := t14.mono s16
      refine ⟨by show 5 ≤ sizeLine; decide, fun p17 m17 => ?_⟩
      have s17 : Same H16 (upd H16 p17 (.lst [.ref p11, .ref p12, .ref p13, .ref p14, .ref p16])) := Same.upd m17
      have a17 : DpAll K (upd H16 p17 (.lst [.ref p11, .ref p12, .ref p13, .ref p14, .ref p16])) [.ref p11, .ref p12, .ref p13, .ref p14, .ref p16] [datR (4, [.reg ((x1 : Int) % 8), .cnt x4]), datR (5, [.cnt x4, .reg ((x1 : Int) % 8)]), datR (6, [.reg ((x1 : Int) % 8), .cnt x4]), datR (7, [.reg ((x1 : Int) % 8), .cnt x4]), datR (8, [.reg ((x1 : Int) % 8), .cnt x4, .pls y15])] := (.cons (t11.mono s17) (.cons (t12.mono s17) (.cons (t13.mono s17) (.cons (t14.mono s17) (.cons (t16.mono s17) .nil)))))
      have l17 : (upd H16 p17 (.lst [.ref p11, .ref p12, .ref p13, .ref p14, .ref p16])) p17 = some (.lst [.ref p11, .ref p12, .ref p13, .ref p14, .ref p16]) := upd_same
      generalize upd H16 p17 (.lst [.ref p11, .ref p12, .ref p13, .ref p14, .ref p16]) = H17 at s17 a17 l17 ⊢
      have g17 := g16.same s17
      obtain ⟨vv, dt, hdt, hvv, dvv⟩ := at_lst a17 (j := t - 4) (by show t - 4 < 5; omega)
      refine ⟨_, rfl, _, _, rfl, rfl, p17, _, _, vv, rfl, rfl, SqL.of l17, at_of (j := t - 4) (by show (x3 : Int) % 32 - 4 = ((t - 4 : Nat) : Int); omega) hvv, ?_⟩
      obtain ⟨row, hs, rfl⟩ : ∃ row, SmallR row ∧ dt = datR row := by
        simp only [List.mem_cons, List.not_mem_nil, or_false, List.mem_append, List.cons_append, List.nil_append] at hdt
        rcases hdt with rfl | rfl | rfl | rfl | rfl
        · exact ⟨(4, [.reg ((x1 : Int) % 8), .cnt x4]), smallR_of (by decide) (smc (p_d n1.1 n1.2) (smc (p_p hx4) (smn))), rfl⟩
        · exact ⟨(5, [.cnt x4, .reg ((x1 : Int) % 8)]), smallR_of (by decide) (smc (p_p hx4) (smc (p_a n1.1 n1.2) (smn))), rfl⟩
        · exact ⟨(6, [.reg ((x1 : Int) % 8), .cnt x4]), smallR_of (by decide) (smc (p_d n1.1 n1.2) (smc (p_i hx4) (smn))), rfl⟩
        · exact ⟨(7, [.reg ((x1 : Int) % 8), .cnt x4]), smallR_of (by decide) (smc (p_d n1.1 n1.2) (smc (p_i hx4) (smn))), rfl⟩
        · exact ⟨(8, [.reg ((x1 : Int) % 8), .cnt x4, .pls y15]), smallR_of (by decide) (smc (p_d n1.1 n1.2) (smc (p_i hx4) (smc (p_keys (Nat.le_trans hl15 (by decide)) hle15) (smn)))), rfl⟩
      exact k row vv _ hs dvv g17
    refine ifF (decide_eq_false c9) ?_
    refine ⟨_, rfl, d, r, ds, rfl, g4.dr, fun w11 dt11 H11 hv11 d11 b11 hd11 => ?_⟩
    obtain ⟨x11, rfl⟩ := hv11
    obtain rfl := d11.int_inv
    have kt11 : KeepT K H4 H11 := .of_dr b11 g4.dr
    have g11 := g4.but b11 hd11
    have n3 : 0 ≤ (x11 : Int) % 8 ∧ (x11 : Int) % 8 < 8 := by omega
    refine ⟨_, _, rfl, rfl, by show (0 : Int) < 8; decide, ?_⟩
    refine ⟨_, rfl, _, _, rfl, rfl, _, rfl, ?_⟩
    by_cases c11 : (x3 : Int) % 32 < 11
    · refine ifT (decide_eq_true c11) ?_
      refine ⟨by show 5 ≤ sizeLine; decide, fun p12 m12 => ?_⟩
      have s12 : Same H11 (upd H11 p12 (.lst [.str "+", .str "-", .str "*", .str "/", .str "mod"])) := Same.upd m12
      have l12 : (upd H11 p12 (.lst [.str "+", .str "-", .str "*", .str "/", .str "mod"])) p12 = some (.lst ((cws 1).map V.str)) := upd_same
      generalize upd H11 p12 (.lst [.str "+", .str "-", .str "*", .str "/", .str "mod"]) = H12 at s12 l12 ⊢
      have g12 := g11.same s12
      refine ⟨by show 6 ≤ sizeLine; decide, fun p13 m13 => ?_⟩
      have s13 : Same H12 (upd H12 p13 (.lst [.str "==", .str "!=", .str "<", .str "<=", .str ">", .str ">="])) := Same.upd m13
      have l13 : (upd H12 p13 (.lst [.str "==", .str "!=", .str "<", .str "<=", .str ">", .str ">="])) p13 = some (.lst ((cws 2).map V.str)) := upd_same
      generalize upd H12 p13 (.lst [.str "==", .str "!=", .str "<", .str "<=", .str ">", .str ">="]) = H13 at s13 l13 ⊢
      have g13 := g12.same s13
      replace l12 := s13 _ _ l12
      refine ⟨by show 2 ≤ sizeLine; decide, fun p14 m14 => ?_⟩
      have s14 : Same H13 (upd H13 p14 (.lst [.ref p12, .ref p13])) := Same.upd m14
      have l14 : (upd H13 p14 (.lst [.ref p12, .ref p13])) p14 = some (.lst [.ref p12, .ref p13]) := upd_same
      generalize upd H13 p14 (.lst [.ref p12, .ref p13]) = H14 at s14 l14 ⊢
      have g14 := g13.same s14
      replace l12 := s14 _ _ l12
      replace l13 := s14 _ _ l13
      have tt : t = 9 ∨ t = 10 := by omega
      rcases tt with rfl | rfl
      · refine ⟨_, rfl, _, _, rfl, rfl, p14, _, _, .ref p12, rfl, rfl, SqL.of l14, at_of (j := 0) (by show (x3 : Int) % 32 - 9 = _; omega) rfl, ?_⟩
        refine ⟨by show 2 ≤ sizeLine; decide, fun p15 m15 => ?_⟩
        have s15 : Same H14 (upd H14 p15 (.lst [.str "op", .str "compare"])) := Same.upd m15
        have l15 : (upd H14 p15 (.lst [.str "op", .str "compare"])) p15 = some (.lst [.str "op", .str "compare"]) := upd_same
        generalize upd H14 p15 (.lst [.str "op", .str "compare"]) = H15 at s15 l15 ⊢
        have g15 := g14.same s15
        replace l12 := s15 _ _ l12
        replace l13 := s15 _ _ l13
        replace l14 := s15 _ _ l14
        refine ⟨_, rfl, _, _, rfl, rfl, p15, _, _, .str "op", rfl, rfl, SqL.of l15, at_of (j := 0) (by show (x3 : Int) % 32 - 9 = _; omega) rfl, _, rfl, _, rfl, _, rfl, _, rfl, p12, _, rfl, .inl (SqL.of l12), _, _, rfl, rfl, by show (0 : Int) < 5; decide, p12, _, _, .str (cw 1 (x11 % 8 % 5)), rfl, rfl, SqL.of l12, at_of (j := x11 % 8 % 5) (by show (x11 : Int) % 8 % 5 = _; omega) (cws_at (by show x11 % 8 % 5 < 5; omega)), _, rfl, _, rfl, by show 5 ≤ sizeLine; decide, fun p16 m16 => ?_⟩
        have s16 : Same H15 (upd H15 p16 (.tup [.str "op", .int ((x1 : Int) % 8), .str (cw 1 (x11 % 8 % 5)), .int ((x2 : Int) % 8), .int ((x11 : Int) % 8)])) := Same.upd m16
        have t16 : Dp K (upd H15 p16 (.tup [.str "op", .int ((x1 : Int) % 8), .str (cw 1 (x11 % 8 % 5)), .int ((x2 : Int) % 8), .int ((x11 : Int) % 8)])) (.ref p16) (datR (9, [.reg ((x1 : Int) % 8), .wrd 1 (x11 % 8 % 5), .reg ((x2 : Int) % 8), .reg ((x11 : Int) % 8)])) := .tup (SqT.of upd_same) (.cons (.str _) (.cons (.int _) (.cons (.str _) (.cons (.int _) (.cons (.int _) .nil)))))
        generalize upd H15 p16 (.tup [.str "op", .int ((x1 : Int) % 8), .str (cw 1 (x11 % 8 % 5)), .int ((x2 : Int) % 8), .int ((x11 : Int) % 8)]) = H16 at s16 t16 ⊢
        have g16 := g15.same s16
        replace l12 := s16 _ _ l12
        replace l13 := s16 _ _ l13
        replace l14 := s16 _ _ l14
        replace l15 := s16 _ _ l15
        exact k _ _ _ (smallR_of (j := 9) (by decide) (smc (p_d n1.1 n1.2) (smc (p_w1 (by omega)) (smc (p_a n2.1 n2.2) (smc (p_a n3.1 n3.2) (smn)))))) t16 g16
      · refine ⟨_, rfl, _, _, rfl, rfl, p14, _, _, .ref p13, rfl, rfl, SqL.of l14, at_of (j := 1) (by show (x3 : Int) % 32 - 9 = _; omega) rfl, ?_⟩
        refine ⟨by show 2 ≤ sizeLine; decide, fun p15 m15 => ?_⟩
        have s15 : Same H14 (upd H14 p15 (.lst [.str "op", .str "compare"])) := Same.upd m15
        have l15 : (upd H14 p15 (.lst [.str "op", .str "compare"])) p15 = some (.lst [.str "op", .str "compare"]) := upd_same
        generalize upd H14 p15 (.lst [.str "op", .str "compare"]) = H15 at s15 l15 ⊢
        have g15 := g14.same s15
        replace l12 := s15 _ _ l12
        replace l13 := s15 _ _ l13
        replace l14 := s15 _ _ l14
        refine ⟨_, rfl, _, _, rfl, rfl, p15, _, _, .str "compare", rfl, rfl, SqL.of l15, at_of (j := 1) (by show (x3 : Int) % 32 - 9 = _; omega) rfl, _, rfl, _, rfl, _, rfl, _, rfl, p13, _, rfl, .inl (SqL.of l13), _, _, rfl, rfl, by show (0 : Int) < 6; decide, p13, _, _, .str (cw 2 (x11 % 8 % 6)), rfl, rfl, SqL.of l13, at_of (j := x11 % 8 % 6) (by show (x11 : Int) % 8 % 6 = _; omega) (cws_at (by show x11 % 8 % 6 < 6; omega)), _, rfl, _, rfl, by show 5 ≤ sizeLine; decide, fun p16 m16 => ?_⟩
        have s16 : Same H15 (upd H15 p16 (.tup [.str "compare", .int ((x1 : Int) % 8), .str (cw 2 (x11 % 8 % 6)), .int ((x2 : Int) % 8), .int ((x11 : Int) % 8)])) := Same.upd m16
        have t16 : Dp K (upd H15 p16 (.tup [.str "compare", .int ((x1 : Int) % 8), .str (cw 2 (x11 % 8 % 6)), .int ((x2 : Int) % 8), .int ((x11 : Int) % 8)])) (.ref p16) (datR (10, [.reg ((x1 : Int) % 8), .wrd 2 (x11 % 8 % 6), .reg ((x2 : Int) % 8), .reg ((x11 : Int) % 8)])) := .tup (SqT.of upd_same) (.cons (.str _) (.cons (.int _) (.cons (.str _) (.cons (.int _) (.cons (.int _) .nil)))))
        generalize upd H15 p16 (.tup [.str "compare", .int ((x1 : Int) % 8), .str (cw 2 (x11 % 8 % 6)), .int ((x2 : Int) % 8), .int ((x11 : Int) % 8)]) = H16 at s16 t16 ⊢
        have g16 := g15.same s16
        replace l12 := s16 _ _ l12
        replace l13 := s16 _ _ l13
        replace l14 := s16 _ _ l14
        replace l15 := s16 _ _ l15
        exact k _ _ _ (smallR_of (j := 10) (by decide) (smc (p_d n1.1 n1.2) (smc (p_w2 (by omega)) (smc (p_a n2.1 n2.2) (smc (p_a n3.1 n3.2) (smn)))))) t16 g16
    refine ifF (decide_eq_false c11) ?_
    refine ⟨_, rfl, _, _, rfl, rfl, _, rfl, ?_⟩
    by_cases c18 : (x3 : Int) % 32 < 18
    · refine ifT (decide_eq_true c18) ?_
      refine ⟨_, rfl, _, rfl, by show 3 ≤ sizeLine; decide, fun p12 m12 => ?_⟩
      have s12 : Same H11 (upd H11 p12 (.tup [.str "minus", .int ((x1 : Int) % 8), .int ((x2 : Int) % 8)])) := Same.upd m12
      have t12 : Dp K (upd H11 p12 (.tup [.str "minus", .int ((x1 : Int) % 8), .int ((x2 : Int) % 8)])) (.ref p12) (datR (11, [.reg ((x1 : Int) % 8), .reg ((x2 : Int) % 8)])) := .tup (SqT.of upd_same) (.cons (.str _) (.cons (.int _) (.cons (.int _) .nil)))
      generalize upd H11 p12 (.tup [.str "minus", .int ((x1 : Int) % 8), .int ((x2 : Int) % 8)]) = H12 at s12 t12 ⊢
      have g12 := g11.same s12
      refine ⟨_, rfl, _, rfl, by show 3 ≤ sizeLine; decide, fun p13 m13 => ?_⟩
      have s13 : Same H12 (upd H12 p13 (.tup [.str "not", .int ((x1 : Int) % 8), .int ((x2 : Int) % 8)])) := Same.upd m13
      have t13 : Dp K (upd H12 p13 (.tup [.str "not", .int ((x1 : Int) % 8), .int ((x2 : Int) % 8)])) (.ref p13) (datR (12, [.reg ((x1 : Int) % 8), .reg ((x2 : Int) % 8)])) := .tup (SqT.of upd_same) (.cons (.str _) (.cons (.int _) (.cons (.int _) .nil)))
      generalize upd H12 p13 (.tup [.str "not", .int ((x1 : Int) % 8), .int ((x2 : Int) % 8)]) = H13 at s13 t13 ⊢
      have g13 := g12.same s13
      replace t12 := t12.mono s13
      refine ⟨_, rfl, _, rfl, by show 3 ≤ sizeLine; decide, fun p14 m14 => ?_⟩
      have s14 : Same H13 (upd H13 p14 (.tup [.str "len", .int ((x1 : Int) % 8), .int ((x2 : Int) % 8)])) := Same.upd m14
      have t14 : Dp K (upd H13 p14 (.tup [.str "len", .int ((x1 : Int) % 8), .int ((x2 : Int) % 8)])) (.ref p14) (datR (13, [.reg ((x1 : Int) % 8), .reg ((x2 : Int) % 8)])) := .tup (SqT.of upd_same) (.cons (.str _) (.cons (.int _) (.cons (.int _) .nil)))
      generalize upd H13 p14 (.tup [.str "len", .int ((x1 : Int) % 8), .int ((x2 : Int) % 8)]) = H14 at s14 t14 ⊢
      have g14 := g13.same s14
      replace t12 := t12.mono s14
      replace t13 := t13.mono s14
      refine ⟨_, rfl, _, rfl, _, rfl, by show 4 ≤ sizeLine; decide, fun p15 m15 => ?_⟩
      have s15 : Same H14 (upd H14 p15 (.tup [.str "cat", .int ((x1 : Int) % 8), .int ((x2 : Int) % 8), .int ((x11 : Int) % 8)])) := Same.upd m15
      have t15 : Dp K (upd H14 p15 (.tup [.str "cat", .int ((x1 : Int) % 8), .int ((x2 : Int) % 8), .int ((x11 : Int) % 8)])) (.ref p15) (datR (14, [.reg ((x1 : Int) % 8), .reg ((x2 : Int) % 8), .reg ((x11 : Int) % 8)])) := .tup (SqT.of upd_same) (.cons (.str _) (.cons (.int _) (.cons (.int _) (.cons (.int _) .nil))))
      generalize upd H14 p15 (.tup [.str "cat", .int ((x1 : Int) % 8), .int ((x2 : Int) % 8), .int ((x11 : Int) % 8)]) = H15 at s15 t15 ⊢
      have g15 := g14.same s15
      replace t12 := t12.mono s15
      replace t13 := t13.mono s15
      replace t14 := t14.mono s15
      refine ⟨_, rfl, _, rfl, _, rfl, _, rfl, by show 5 ≤ sizeLine; decide, fun p16 m16 => ?_⟩
      have s16 : Same H15 (upd H15 p16 (.tup [.str "sub", .int ((x1 : Int) % 8), .int ((x2 : Int) % 8), .int ((x11 : Int) % 8), .int ((x1 : Int) % 8)])) := Same.upd m16
      have t16 : Dp K (upd H15 p16 (.tup [.str "sub", .int ((x1 : Int) % 8), .int ((x2 : Int) % 8), .int ((x11 : Int) % 8), .int ((x1 : Int) % 8)])) (.ref p16) (datR (15, [.reg ((x1 : Int) % 8), .reg ((x2 : Int) % 8), .reg ((x11 : Int) % 8), .reg ((x1 : Int) % 8)])) := .tup (SqT.of upd_same) (.cons (.str _) (.cons (.int _) (.cons (.int _) (.cons (.int _) (.cons (.int _) .nil)))))
      generalize upd H15 p16 (.tup [.str "sub", .int ((x1 : Int) % 8), .int ((x2 : Int) % 8), .int ((x11 : Int) % 8), .int ((x1 : Int) % 8)]) = H16 at s16 t16 ⊢
      have g16 := g15.same s16
      replace t12 := t12.mono s16
      replace t13 := t13.mono s16
      replace t14 := t14.mono s16
      replace t15 := t15.mono s16
      refine ⟨by show 5 ≤ sizeLine; decide, fun p17 m17 => ?_⟩
      have s17 : Same H16 (upd H16 p17 (.lst [.ref p12, .ref p13, .ref p14, .ref p15, .ref p16])) := Same.upd m17
      have a17 : DpAll K (upd H16 p17 (.lst [.ref p12, .ref p13, .ref p14, .ref p15, .ref p16])) [.ref p12, .ref p13, .ref p14, .ref p15, .ref p16] [datR (11, [.reg ((x1 : Int) % 8), .reg ((x2 : Int) % 8)]), datR (12, [.reg ((x1 : Int) % 8), .reg ((x2 : Int) % 8)]), datR (13, [.reg ((x1 : Int) % 8), .reg ((x2 : Int) % 8)]), datR (14, [.reg ((x1 : Int) % 8), .reg ((x2 : Int) % 8), .reg ((x11 : Int) % 8)]), datR (15, [.reg ((x1 : Int) % 8), .reg ((x2 : Int) % 8), .reg ((x11 : Int) % 8), .reg ((x1 : Int) % 8)])] := (.cons (t12.mono s17) (.cons (t13.mono s17) (.cons (t14.mono s17) (.cons (t15.mono s17) (.cons (t16.mono s17) .nil)))))
      have l17 : (upd H16 p17 (.lst [.ref p12, .ref p13, .ref p14, .ref p15, .ref p16])) p17 = some (.lst [.ref p12, .ref p13, .ref p14, .ref p15, .ref p16]) := upd_same
      generalize upd H16 p17 (.lst [.ref p12, .ref p13, .ref p14, .ref p15, .ref p16]) = H17 at s17 a17 l17 ⊢
      have g17 := g16.same s17
      refine ⟨_, rfl, _, rfl, _, rfl, by show 3 ≤ sizeLine; decide, fun p18 m18 => ?_⟩
      have s18 : Same H17 (upd H17 p18 (.tup [.str "text", .int ((x1 : Int) % 8), .int ((x2 : Int) % 8)])) := Same.upd m18
      have t18 : Dp K (upd H17 p18 (.tup [.str "text", .int ((x1 : Int) % 8), .int ((x2 : Int) % 8)])) (.ref p18) (datR (16, [.reg ((x1 : Int) % 8), .reg ((x2 : Int) % 8)])) := .tup (SqT.of upd_same) (.cons (.str _) (.cons (.int _) (.cons (.int _) .nil)))
      generalize upd H17 p18 (.tup [.str "text", .int ((x1 : Int) % 8), .int ((x2 : Int) % 8)]) = H18 at s18 t18 ⊢
      have g18 := g17.same s18
      replace a17 := a17.mono s18
      replace l17 := s18 _ _ l17
      refine ⟨_, rfl, _, rfl, by show 3 ≤ sizeLine; decide, fun p19 m19 => ?_⟩
      have s19 : Same H18 (upd H18 p19 (.tup [.str "byte", .int ((x1 : Int) % 8), .int ((x2 : Int) % 8)])) := Same.upd m19
      have t19 : Dp K (upd H18 p19 (.tup [.str "byte", .int ((x1 : Int) % 8), .int ((x2 : Int) % 8)])) (.ref p19) (datR (17, [.reg ((x1 : Int) % 8), .reg ((x2 : Int) % 8)])) := .tup (SqT.of upd_same) (.cons (.str _) (.cons (.int _) (.cons (.int _) .nil)))
      generalize upd H18 p19 (.tup [.str "byte", .int ((x1 : Int) % 8), .int ((x2 : Int) % 8)]) = H19 at s19 t19 ⊢
      have g19 := g18.same s19
      replace a17 := a17.mono s19
      replace t18 := t18.mono s19
      replace l17 := s19 _ _ l17
      refine ⟨by show 2 ≤ sizeLine; decide, fun p20 m20 => ?_⟩
      have s20 : Same H19 (upd H19 p20 (.lst [.ref p18, .ref p19])) := Same.upd m20
      have a20 : DpAll K (upd H19 p20 (.lst [.ref p18, .ref p19])) [.ref p18, .ref p19] [datR (16, [.reg ((x1 : Int) % 8), .reg ((x2 : Int) % 8)]), datR (17, [.reg ((x1 : Int) % 8), .reg ((x2 : Int) % 8)])] := (.cons (t18.mono s20) (.cons (t19.mono s20) .nil))
      have l20 : (upd H19 p20 (.lst [.ref p18, .ref p19])) p20 = some (.lst [.ref p18, .ref p19]) := upd_same
      generalize upd H19 p20 (.lst [.ref p18, .ref p19]) = H20 at s20 a20 l20 ⊢
      have g20 := g19.same s20
      replace a17 := a17.mono s20
      replace l17 := s20 _ _ l17
      refine ⟨p17, p20, _, _, rfl, rfl, l17, l20, small (by show 7 ≤ 1000000; decide), fun p21 m21 => ?_⟩
      have s21 : Same H20 (upd H20 p21 (.lst ([.ref p12, .ref p13, .ref p14, .ref p15, .ref p16] ++ [.ref p18, .ref p19]))) := Same.upd m21
      have a21 : DpAll K (upd H20 p21 (.lst ([.ref p12, .ref p13, .ref p14, .ref p15, .ref p16] ++ [.ref p18, .ref p19]))) ([.ref p12, .ref p13, .ref p14, .ref p15, .ref p16] ++ [.ref p18, .ref p19]) ([datR (11, [.reg ((x1 : Int) % 8), .reg ((x2 : Int) % 8)]), datR (12, [.reg ((x1 : Int) % 8), .reg ((x2 : Int) % 8)]), datR (13, [.reg ((x1 : Int) % 8), .reg ((x2 : Int) % 8)]), datR (14, [.reg ((x1 : Int) % 8), .reg ((x2 : Int) % 8), .reg ((x11 : Int) % 8)]), datR (15, [.reg ((x1 : Int) % 8), .reg ((x2 : Int) % 8), .reg ((x11 : Int) % 8), .reg ((x1 : Int) % 8)])] ++ [datR (16, [.reg ((x1 : Int) % 8), .reg ((x2 : Int) % 8)]), datR (17, [.reg ((x1 : Int) % 8), .reg ((x2 : Int) % 8)])]) := (a17.mono s21).app (a20.mono s21)
      have l21 : (upd H20 p21 (.lst ([.ref p12, .ref p13, .ref p14, .ref p15, .ref p16] ++ [.ref p18, .ref p19]))) p21 = some (.lst ([.ref p12, .ref p13, .ref p14, .ref p15, .ref p16] ++ [.ref p18, .ref p19])) := upd_same
      generalize upd H20 p21 (.lst ([.ref p12, .ref p13, .ref p14, .ref p15, .ref p16] ++ [.ref p18, .ref p19])) = H21 at s21 a21 l21 ⊢
      have g21 := g20.same s21
      obtain ⟨vv, dt, hdt, hvv, dvv⟩ := at_lst a21 (j := t - 11) (by show t - 11 < 7; omega)
      refine ⟨_, rfl, _, _, rfl, rfl, p21, _, _, vv, rfl, rfl, SqL.of l21, at_of (j := t - 11) (by show (x3 : Int) % 32 - 11 = ((t - 11 : Nat) : Int); omega) hvv, ?_⟩
      obtain ⟨row, hs, rfl⟩ : ∃ row, SmallR row ∧ dt = datR row := by
        simp only [List.mem_cons, List.not_mem_nil, or_false, List.mem_append, List.cons_append, List.nil_append] at hdt
        rcases hdt with rfl | rfl | rfl | rfl | rfl | rfl | rfl
        · exact ⟨(11, [.reg ((x1 : Int) % 8), .reg ((x2 : Int) % 8)]), smallR_of (by decide) (smc (p_d n1.1 n1.2) (smc (p_a n2.1 n2.2) (smn))), rfl⟩
        · exact ⟨(12, [.reg ((x1 : Int) % 8), .reg ((x2 : Int) % 8)]), smallR_of (by decide) (smc (p_d n1.1 n1.2) (smc (p_a n2.1 n2.2) (smn))), rfl⟩
        · exact ⟨(13, [.reg ((x1 : Int) % 8), .reg ((x2 : Int) % 8)]), smallR_of (by decide) (smc (p_d n1.1 n1.2) (smc (p_a n2.1 n2.2) (smn))), rfl⟩
        · exact ⟨(14, [.reg ((x1 : Int) % 8), .reg ((x2 : Int) % 8), .reg ((x11 : Int) % 8)]), smallR_of (by decide) (smc (p_d n1.1 n1.2) (smc (p_a n2.1 n2.2) (smc (p_a n3.1 n3.2) (smn)))), rfl⟩
        · exact ⟨(15, [.reg ((x1 : Int) % 8), .reg ((x2 : Int) % 8), .reg ((x11 : Int) % 8), .reg ((x1 : Int) % 8)]), smallR_of (by decide) (smc (p_d n1.1 n1.2) (smc (p_a n2.1 n2.2) (smc (p_a n3.1 n3.2) (smc (p_a n1.1 n1.2) (smn))))), rfl⟩
        · exact ⟨(16, [.reg ((x1 : Int) % 8), .reg ((x2 : Int) % 8)]), smallR_of (by decide) (smc (p_d n1.1 n1.2) (smc (p_a n2.1 n2.2) (smn))), rfl⟩
        · exact ⟨(17, [.reg ((x1 : Int) % 8), .reg ((x2 : Int) % 8)]), smallR_of (by decide) (smc (p_d n1.1 n1.2) (smc (p_a n2.1 n2.2) (smn))), rfl⟩
      exact k row vv _ hs dvv g21
    refine ifF (decide_eq_false c18) ?_
    refine ⟨_, rfl, _, _, rfl, rfl, _, rfl, ?_⟩
    by_cases c21 : (x3 : Int) % 32 < 21
    · refine ifT (decide_eq_true c21) ?_
      refine ⟨_, rfl, by show 2 ≤ sizeLine; decide, fun p12 m12 => ?_⟩
      have s12 : Same H11 (upd H11 p12 (.tup [.str "spec", .int ((x1 : Int) % 8)])) := Same.upd m12
      have t12 : Dp K (upd H11 p12 (.tup [.str "spec", .int ((x1 : Int) % 8)])) (.ref p12) (datR (18, [.reg ((x1 : Int) % 8)])) := .tup (SqT.of upd_same) (.cons (.str _) (.cons (.int _) .nil))
      generalize upd H11 p12 (.tup [.str "spec", .int ((x1 : Int) % 8)]) = H12 at s12 t12 ⊢
      have g12 := g11.same s12
      refine ⟨_, rfl, d, r, ds, rfl, g12.dr, fun w13 dt13 H13 hv13 d13 b13 hd13 => ?_⟩
      obtain ⟨x13, rfl⟩ := hv13
      obtain rfl := d13.int_inv
      have kt13 : KeepT K H12 H13 := .of_dr b13 g12.dr
      have g13 := g12.but b13 hd13
      replace t12 := dp_keep kt13 (noL_datR _) t12
      have e13 : (x13 : Int) % (m : Int) = ((x13 % m : Nat) : Int) := (Int.natCast_emod _ _).symm
      have f13 : x13 % m < m := lt_mod (by omega)
      refine ⟨_, rfl, _, _, rfl, rfl, by show (0 : Int) < (m : Int); omega, by show 2 ≤ sizeLine; decide, fun p14 m14 => ?_⟩
      have s14 : Same H13 (upd H13 p14 (.tup [.str "jump", .int ((x13 : Int) % (m : Int))])) := Same.upd m14
      have t14 : Dp K (upd H13 p14 (.tup [.str "jump", .int ((x13 : Int) % (m : Int))])) (.ref p14) (datR (19, [.cnt (x13 % m)])) := .tup (SqT.of upd_same) (.cons (.str _) (.cons (by rw [e13]; exact .int _) .nil))
      generalize upd H13 p14 (.tup [.str "jump", .int ((x13 : Int) % (m : Int))]) = H14 at s14 t14 ⊢
      have g14 := g13.same s14
      replace t12 := t12.mono s14
      refine ⟨_, rfl, _, rfl, d, r, ds, rfl, g14.dr, fun w15 dt15 H15 hv15 d15 b15 hd15 => ?_⟩
      obtain ⟨x15, rfl⟩ := hv15
      obtain rfl := d15.int_inv
      have kt15 : KeepT K H14 H15 := .of_dr b15 g14.dr
      have g15 := g14.but b15 hd15
      replace t12 := dp_keep kt15 (noL_datR _) t12
      replace t14 := dp_keep kt15 (noL_datR _) t14
      have e15 : (x15 : Int) % (m : Int) = ((x15 % m : Nat) : Int) := (Int.natCast_emod _ _).symm
      have f15 : x15 % m < m := lt_mod (by omega)
      refine ⟨_, rfl, _, _, rfl, rfl, by show (0 : Int) < (m : Int); omega, by show 3 ≤ sizeLine; decide, fun p16 m16 => ?_⟩
      have s16 : Same H15 (upd H15 p16 (.tup [.str "zero", .int ((x1 : Int) % 8), .int ((x15 : Int) % (m : Int))])) := Same.upd m16
      have t16 : Dp K (upd H15 p16 (.tup [.str "zero", .int ((x1 : Int) % 8), .int ((x15 : Int) % (m : Int))])) (.ref p16) (datR (20, [.reg ((x1 : Int) % 8), .cnt (x15 % m)])) := .tup (SqT.of upd_same) (.cons (.str _) (.cons (.int _) (.cons (by rw [e15]; exact .int _) .nil)))
      generalize upd H15 p16 (.tup [.str "zero", .int ((x1 : Int) % 8), .int ((x15 : Int) % (m : Int))]) = H16 at s16 t16 ⊢
      have g16 := g15.same s16
      replace t12 := t12.mono s16
      replace t14 := t14.mono s16
      refine ⟨by show 3 ≤ sizeLine; decide, fun p17 m17 => ?_⟩
      have s17 : Same H16 (upd H16 p17 (.lst [.ref p12, .ref p14, .ref p16])) := Same.upd m17
      have a17 : DpAll K (upd H16 p17 (.lst [.ref p12, .ref p14, .ref p16])) [.ref p12, .ref p14, .ref p16] [datR (18, [.reg ((x1 : Int) % 8)]), datR (19, [.cnt (x13 % m)]), datR (20, [.reg ((x1 : Int) % 8), .cnt (x15 % m)])] := (.cons (t12.mono s17) (.cons (t14.mono s17) (.cons (t16.mono s17) .nil)))
      have l17 : (upd H16 p17 (.lst [.ref p12, .ref p14, .ref p16])) p17 = some (.lst [.ref p12, .ref p14, .ref p16]) := upd_same
      generalize upd H16 p17 (.lst [.ref p12, .ref p14, .ref p16]) = H17 at s17 a17 l17 ⊢
      have g17 := g16.same s17
      obtain ⟨vv, dt, hdt, hvv, dvv⟩ := at_lst a17 (j := t - 18) (by show t - 18 < 3; omega)
      refine ⟨_, rfl, _, _, rfl, rfl, p17, _, _, vv, rfl, rfl, SqL.of l17, at_of (j := t - 18) (by show (x3 : Int) % 32 - 18 = ((t - 18 : Nat) : Int); omega) hvv, ?_⟩
      obtain ⟨row, hs, rfl⟩ : ∃ row, SmallR row ∧ dt = datR row := by
        simp only [List.mem_cons, List.not_mem_nil, or_false, List.mem_append, List.cons_append, List.nil_append] at hdt
        rcases hdt with rfl | rfl | rfl
        · exact ⟨(18, [.reg ((x1 : Int) % 8)]), smallR_of (by decide) (smc (p_d n1.1 n1.2) (smn)), rfl⟩
        · exact ⟨(19, [.cnt (x13 % m)]), smallR_of (by decide) (smc (p_t (by omega)) (smn)), rfl⟩
        · exact ⟨(20, [.reg ((x1 : Int) % 8), .cnt (x15 % m)]), smallR_of (by decide) (smc (p_a n1.1 n1.2) (smc (p_t (by omega)) (smn))), rfl⟩
      exact k row vv _ hs dvv g17
    refine ifF (decide_eq_false c21) ?_
    refine ⟨_, rfl, _, _, rfl, rfl, _, rfl, ?_⟩
    by_cases c25 : (x3 : Int) % 32 < 25
    · refine ifT (decide_eq_true c25) ?_
      refine ⟨_, rfl, _, rfl, by show 3 ≤ sizeLine; decide, fun p12 m12 => ?_⟩
      have s12 : Same H11 (upd H11 p12 (.tup [.str "setglobal", .int ((x4 : Nat) : Int), .int ((x1 : Int) % 8)])) := Same.upd m12
      have t12 : Dp K (upd H11 p12 (.tup [.str "setglobal", .int ((x4 : Nat) : Int), .int ((x1 : Int) % 8)])) (.ref p12) (datR (21, [.cnt x4, .reg ((x1 : Int) % 8)])) := .tup (SqT.of upd_same) (.cons (.str _) (.cons (.int _) (.cons (.int _) .nil)))
      generalize upd H11 p12 (.tup [.str "setglobal", .int ((x4 : Nat) : Int), .int ((x1 : Int) % 8)]) = H12 at s12 t12 ⊢
      have g12 := g11.same s12
      refine ⟨_, rfl, _, rfl, by show 3 ≤ sizeLine; decide, fun p13 m13 => ?_⟩
      have s13 : Same H12 (upd H12 p13 (.tup [.str "setthread", .int ((x4 : Nat) : Int), .int ((x1 : Int) % 8)])) := Same.upd m13
      have t13 : Dp K (upd H12 p13 (.tup [.str "setthread", .int ((x4 : Nat) : Int), .int ((x1 : Int) % 8)])) (.ref p13) (datR (22, [.cnt x4, .reg ((x1 : Int) % 8)])) := .tup (SqT.of upd_same) (.cons (.str _) (.cons (.int _) (.cons (.int _) .nil)))
      generalize upd H12 p13 (.tup [.str "setthread", .int ((x4 : Nat) : Int), .int ((x1 : Int) % 8)]) = H13 at s13 t13 ⊢
      have g13 := g12.same s13
      replace t12 := t12.mono s13
      refine ⟨_, rfl, _, rfl, d, r, ds, 3, rfl, by decide, g13.dr, fun y14 w14 H14 hl14 hle14 d14 b14 hd14 => ?_⟩
      have kt14 : KeepT K H13 H14 := .of_dr b14 g13.dr
      have g14 := g13.but b14 hd14
      replace t12 := dp_keep kt14 (noL_datR _) t12
      replace t13 := dp_keep kt14 (noL_datR _) t13
      refine ⟨_, rfl, by show 4 ≤ sizeLine; decide, fun p15 m15 => ?_⟩
      have s15 : Same H14 (upd H14 p15 (.tup [.str "setarray", .int ((x4 : Nat) : Int), w14, .int ((x1 : Int) % 8)])) := Same.upd m15
      have t15 : Dp K (upd H14 p15 (.tup [.str "setarray", .int ((x4 : Nat) : Int), w14, .int ((x1 : Int) % 8)])) (.ref p15) (datR (23, [.cnt x4, .pls y14, .reg ((x1 : Int) % 8)])) := .tup (SqT.of upd_same) (.cons (.str _) (.cons (.int _) (.cons (d14.mono s15) (.cons (.int _) .nil))))
      generalize upd H14 p15 (.tup [.str "setarray", .int ((x4 : Nat) : Int), w14, .int ((x1 : Int) % 8)]) = H15 at s15 t15 ⊢
      have g15 := g14.same s15
      replace t12 := t12.mono s15
      replace t13 := t13.mono s15
      refine ⟨by show 3 ≤ sizeLine; decide, fun p16 m16 => ?_⟩
      have s16 : Same H15 (upd H15 p16 (.lst [.ref p12, .ref p13, .ref p15])) := Same.upd m16
      have a16 : DpAll K (upd H15 p16 (.lst [.ref p12, .ref p13, .ref p15])) [.ref p12, .ref p13, .ref p15] [datR (21, [.cnt x4, .reg ((x1 : Int) % 8)]), datR (22, [.cnt x4, .reg ((x1 : Int) % 8)]), datR (23, [.cnt x4, .pls y14, .reg ((x1 : Int) % 8)])] := (.cons (t12.mono s16) (.cons (t13.mono s16) (.cons (t15.mono s16) .nil)))
      have l16 : (upd H15 p16 (.lst [.ref p12, .ref p13, .ref p15])) p16 = some (.lst [.ref p12, .ref p13, .ref p15]) := upd_same
      generalize upd H15 p16 (.lst [.ref p12, .ref p13, .ref p15]) = H16 at s16 a16 l16 ⊢
      have g16 := g15.same s16
      refine ⟨_, rfl, by show 2 ≤ sizeLine; decide, fun p17 m17 => ?_⟩
      have s17 : Same H16 (upd H16 p17 (.lst [.str "trace", .str "say"])) := Same.upd m17
      have l17 : (upd H16 p17 (.lst [.str "trace", .str "say"])) p17 = some (.lst ((cws 3).map V.str)) := upd_same
      generalize upd H16 p17 (.lst [.str "trace", .str "say"]) = H17 at s17 l17 ⊢
      have g17 := g16.same s17
      replace a16 := a16.mono s17
      replace l16 := s17 _ _ l16
      refine ⟨_, rfl, _, _, rfl, rfl, by show (0 : Int) < 2; decide, p17, _, _, .str (cw 3 (x2 % 8 % 2)), rfl, rfl, SqL.of l17, at_of (j := x2 % 8 % 2) (by show (x2 : Int) % 8 % 2 = _; omega) (cws_at (by show x2 % 8 % 2 < 2; omega)), _, rfl, d, r, ds, 16, rfl, by decide, g17.dr, fun y18 w18 H18 hl18 hle18 d18 b18 hd18 => ?_⟩
      have kt18 : KeepT K H17 H18 := .of_dr b18 g17.dr
      have g18 := g17.but b18 hd18
      replace a16 := dps_keep kt18 (by simp [noLs, noL_datR]) a16
      replace l16 := b18 _ _ (g17.dr.ne0 l16) l16
      replace l17 := b18 _ _ (g17.dr.ne0 l17) l17
      refine ⟨by show 3 ≤ sizeLine; decide, fun p19 m19 => ?_⟩
      have s19 : Same H18 (upd H18 p19 (.tup [.str "record", .str (cw 3 (x2 % 8 % 2)), w18])) := Same.upd m19
      have t19 : Dp K (upd H18 p19 (.tup [.str "record", .str (cw 3 (x2 % 8 % 2)), w18])) (.ref p19) (datR (24, [.wrd 3 (x2 % 8 % 2), .pls y18])) := .tup (SqT.of upd_same) (.cons (.str _) (.cons (.str _) (.cons (d18.mono s19) .nil)))
      generalize upd H18 p19 (.tup [.str "record", .str (cw 3 (x2 % 8 % 2)), w18]) = H19 at s19 t19 ⊢
      have g19 := g18.same s19
      replace a16 := a16.mono s19
      replace l16 := s19 _ _ l16
      refine ⟨by show 1 ≤ sizeLine; decide, fun p20 m20 => ?_⟩
      have s20 : Same H19 (upd H19 p20 (.lst [.ref p19])) := Same.upd m20
      have a20 : DpAll K (upd H19 p20 (.lst [.ref p19])) [.ref p19] [datR (24, [.wrd 3 (x2 % 8 % 2), .pls y18])] := (.cons (t19.mono s20) .nil)
      have l20 : (upd H19 p20 (.lst [.ref p19])) p20 = some (.lst [.ref p19]) := upd_same
      generalize upd H19 p20 (.lst [.ref p19]) = H20 at s20 a20 l20 ⊢
      have g20 := g19.same s20
      replace a16 := a16.mono s20
      replace l16 := s20 _ _ l16
      refine ⟨p16, p20, _, _, rfl, rfl, l16, l20, small (by show 4 ≤ 1000000; decide), fun p21 m21 => ?_⟩
      have s21 : Same H20 (upd H20 p21 (.lst ([.ref p12, .ref p13, .ref p15] ++ [.ref p19]))) := Same.upd m21
      have a21 : DpAll K (upd H20 p21 (.lst ([.ref p12, .ref p13, .ref p15] ++ [.ref p19]))) ([.ref p12, .ref p13, .ref p15] ++ [.ref p19]) ([datR (21, [.cnt x4, .reg ((x1 : Int) % 8)]), datR (22, [.cnt x4, .reg ((x1 : Int) % 8)]), datR (23, [.cnt x4, .pls y14, .reg ((x1 : Int) % 8)])] ++ [datR (24, [.wrd 3 (x2 % 8 % 2), .pls y18])]) := (a16.mono s21).app (a20.mono s21)
      have l21 : (upd H20 p21 (.lst ([.ref p12, .ref p13, .ref p15] ++ [.ref p19]))) p21 = some (.lst ([.ref p12, .ref p13, .ref p15] ++ [.ref p19])) := upd_same
      generalize upd H20 p21 (.lst ([.ref p12, .ref p13, .ref p15] ++ [.ref p19])) = H21 at s21 a21 l21 ⊢
      have g21 := g20.same s21
      obtain ⟨vv, dt, hdt, hvv, dvv⟩ := at_lst a21 (j := t - 21) (by show t - 21 < 4; omega)
      refine ⟨_, rfl, _, _, rfl, rfl, p21, _, _, vv, rfl, rfl, SqL.of l21, at_of (j := t - 21) (by show (x3 : Int) % 32 - 21 = ((t - 21 : Nat) : Int); omega) hvv, ?_⟩
      obtain ⟨row, hs, rfl⟩ : ∃ row, SmallR row ∧ dt = datR row := by
        simp only [List.mem_cons, List.not_mem_nil, or_false, List.mem_append, List.cons_append, List.nil_append] at hdt
        rcases hdt with rfl | rfl | rfl | rfl
        · exact ⟨(21, [.cnt x4, .reg ((x1 : Int) % 8)]), smallR_of (by decide) (smc (p_i hx4) (smc (p_a n1.1 n1.2) (smn))), rfl⟩
        · exact ⟨(22, [.cnt x4, .reg ((x1 : Int) % 8)]), smallR_of (by decide) (smc (p_i hx4) (smc (p_a n1.1 n1.2) (smn))), rfl⟩
        · exact ⟨(23, [.cnt x4, .pls y14, .reg ((x1 : Int) % 8)]), smallR_of (by decide) (smc (p_i hx4) (smc (p_keys (Nat.le_trans hl14 (by decide)) hle14) (smc (p_a n1.1 n1.2) (smn)))), rfl⟩
        · exact ⟨(24, [.wrd 3 (x2 % 8 % 2), .pls y18]), smallR_of (by decide) (smc (p_w3 (by omega)) (smc (p_mems hl18 hle18) (smn))), rfl⟩
      exact k row vv _ hs dvv g21
    refine ifF (decide_eq_false c25) ?_
    refine ⟨_, rfl, rfl, _, rfl, ?_⟩
    by_cases c26 : (x3 : Int) % 32 = 25
    · refine ifT (decide_eq_true (congrArg V.int c26)) ?_
      refine ⟨_, rfl, _, rfl, d, r, ds, 3, rfl, by decide, g11.dr, fun y12 w12 H12 hl12 hle12 d12 b12 hd12 => ?_⟩
      have kt12 : KeepT K H11 H12 := .of_dr b12 g11.dr
      have g12 := g11.but b12 hd12
      refine ⟨_, rfl, d, r, ds, rfl, g12.dr, fun w13 dt13 H13 hv13 d13 b13 hd13 => ?_⟩
      obtain ⟨x13, rfl⟩ := hv13
      obtain rfl := d13.int_inv
      have kt13 : KeepT K H12 H13 := .of_dr b13 g12.dr
      have g13 := g12.but b13 hd13
      have d12q := dp_keep kt13 (show noL (.tuple (y12.map dI)) = true from noLs_map (f := dI) (fun _ => rfl) y12) d12
      refine ⟨_, _, rfl, rfl, by show (0 : Int) < 9; decide, _, _, rfl, rfl, by show 4 ≤ sizeLine; decide, fun p14 m14 => ?_⟩
      have s14 : Same H13 (upd H13 p14 (.tup [.str "put", .int ((x4 : Nat) : Int), w12, .int ((x13 : Int) % 9 - 1)])) := Same.upd m14
      have t14 : Dp K (upd H13 p14 (.tup [.str "put", .int ((x4 : Nat) : Int), w12, .int ((x13 : Int) % 9 - 1)])) (.ref p14) (datR (25, [.cnt x4, .pls y12, .reg ((x13 : Int) % 9 - 1)])) := .tup (SqT.of upd_same) (.cons (.str _) (.cons (.int _) (.cons (d12q.mono s14) (.cons (.int _) .nil))))
      generalize upd H13 p14 (.tup [.str "put", .int ((x4 : Nat) : Int), w12, .int ((x13 : Int) % 9 - 1)]) = H14 at s14 t14 ⊢
      have g14 := g13.same s14
      exact k _ _ _ (smallR_of (j := 25) (by decide) (smc (p_i hx4) (smc (p_keys (Nat.le_trans hl12 (by decide)) hle12) (smc (p_mb (by omega) (by omega)) (smn))))) t14 g14
    refine ifF (decide_eq_false (fun z => c26 (V.int.inj z))) ?_
    refine ⟨_, rfl, by show 2 ≤ sizeLine; decide, fun p12 m12 => ?_⟩
    have s12 : Same H11 (upd H11 p12 (.tup [.str "speculate", .int ((x1 : Int) % 8)])) := Same.upd m12
    have t12 : Dp K (upd H11 p12 (.tup [.str "speculate", .int ((x1 : Int) % 8)])) (.ref p12) (datR (26, [.reg ((x1 : Int) % 8)])) := .tup (SqT.of upd_same) (.cons (.str _) (.cons (.int _) .nil))
    generalize upd H11 p12 (.tup [.str "speculate", .int ((x1 : Int) % 8)]) = H12 at s12 t12 ⊢
    have g12 := g11.same s12
    refine ⟨_, rfl, by show 2 ≤ sizeLine; decide, fun p13 m13 => ?_⟩
    have s13 : Same H12 (upd H12 p13 (.tup [.str "commit", .int ((x1 : Int) % 8)])) := Same.upd m13
    have t13 : Dp K (upd H12 p13 (.tup [.str "commit", .int ((x1 : Int) % 8)])) (.ref p13) (datR (27, [.reg ((x1 : Int) % 8)])) := .tup (SqT.of upd_same) (.cons (.str _) (.cons (.int _) .nil))
    generalize upd H12 p13 (.tup [.str "commit", .int ((x1 : Int) % 8)]) = H13 at s13 t13 ⊢
    have g13 := g12.same s13
    replace t12 := t12.mono s13
    refine ⟨_, rfl, by show 2 ≤ sizeLine; decide, fun p14 m14 => ?_⟩
    have s14 : Same H13 (upd H13 p14 (.tup [.str "discard", .int ((x1 : Int) % 8)])) := Same.upd m14
    have t14 : Dp K (upd H13 p14 (.tup [.str "discard", .int ((x1 : Int) % 8)])) (.ref p14) (datR (28, [.reg ((x1 : Int) % 8)])) := .tup (SqT.of upd_same) (.cons (.str _) (.cons (.int _) .nil))
    generalize upd H13 p14 (.tup [.str "discard", .int ((x1 : Int) % 8)]) = H14 at s14 t14 ⊢
    have g14 := g13.same s14
    replace t12 := t12.mono s14
    replace t13 := t13.mono s14
    refine ⟨by show 1 ≤ sizeLine; decide, fun p15 m15 => ?_⟩
    have s15 : Same H14 (upd H14 p15 (.tup [.str "stop"])) := Same.upd m15
    have t15 : Dp K (upd H14 p15 (.tup [.str "stop"])) (.ref p15) (datR (29, [])) := .tup (SqT.of upd_same) (.cons (.str _) .nil)
    generalize upd H14 p15 (.tup [.str "stop"]) = H15 at s15 t15 ⊢
    have g15 := g14.same s15
    replace t12 := t12.mono s15
    replace t13 := t13.mono s15
    replace t14 := t14.mono s15
    refine ⟨by show 1 ≤ sizeLine; decide, fun p16 m16 => ?_⟩
    have s16 : Same H15 (upd H15 p16 (.tup [.str "skip"])) := Same.upd m16
    have t16 : Dp K (upd H15 p16 (.tup [.str "skip"])) (.ref p16) (datR (30, [])) := .tup (SqT.of upd_same) (.cons (.str _) .nil)
    generalize upd H15 p16 (.tup [.str "skip"]) = H16 at s16 t16 ⊢
    have g16 := g15.same s16
    replace t12 := t12.mono s16
    replace t13 := t13.mono s16
    replace t14 := t14.mono s16
    replace t15 := t15.mono s16
    refine ⟨by show 1 ≤ sizeLine; decide, fun p17 m17 => ?_⟩
    have s17 : Same H16 (upd H16 p17 (.tup [.str "end"])) := Same.upd m17
    have t17 : Dp K (upd H16 p17 (.tup [.str "end"])) (.ref p17) (datR (31, [])) := .tup (SqT.of upd_same) (.cons (.str _) .nil)
    generalize upd H16 p17 (.tup [.str "end"]) = H17 at s17 t17 ⊢
    have g17 := g16.same s17
    replace t12 := t12.mono s17
    replace t13 := t13.mono s17
    replace t14 := t14.mono s17
    replace t15 := t15.mono s17
    replace t16 := t16.mono s17
    refine ⟨by show 6 ≤ sizeLine; decide, fun p18 m18 => ?_⟩
    have s18 : Same H17 (upd H17 p18 (.lst [.ref p12, .ref p13, .ref p14, .ref p15, .ref p16, .ref p17])) := Same.upd m18
    have a18 : DpAll K (upd H17 p18 (.lst [.ref p12, .ref p13, .ref p14, .ref p15, .ref p16, .ref p17])) [.ref p12, .ref p13, .ref p14, .ref p15, .ref p16, .ref p17] [datR (26, [.reg ((x1 : Int) % 8)]), datR (27, [.reg ((x1 : Int) % 8)]), datR (28, [.reg ((x1 : Int) % 8)]), datR (29, []), datR (30, []), datR (31, [])] := (.cons (t12.mono s18) (.cons (t13.mono s18) (.cons (t14.mono s18) (.cons (t15.mono s18) (.cons (t16.mono s18) (.cons (t17.mono s18) .nil))))))
    have l18 : (upd H17 p18 (.lst [.ref p12, .ref p13, .ref p14, .ref p15, .ref p16, .ref p17])) p18 = some (.lst [.ref p12, .ref p13, .ref p14, .ref p15, .ref p16, .ref p17]) := upd_same
    generalize upd H17 p18 (.lst [.ref p12, .ref p13, .ref p14, .ref p15, .ref p16, .ref p17]) = H18 at s18 a18 l18 ⊢
    have g18 := g17.same s18
    obtain ⟨vv, dt, hdt, hvv, dvv⟩ := at_lst a18 (j := t - 26) (by show t - 26 < 6; omega)
    refine ⟨_, rfl, _, _, rfl, rfl, p18, _, _, vv, rfl, rfl, SqL.of l18, at_of (j := t - 26) (by show (x3 : Int) % 32 - 26 = ((t - 26 : Nat) : Int); omega) hvv, ?_⟩
    obtain ⟨row, hs, rfl⟩ : ∃ row, SmallR row ∧ dt = datR row := by
      simp only [List.mem_cons, List.not_mem_nil, or_false, List.mem_append, List.cons_append, List.nil_append] at hdt
      rcases hdt with rfl | rfl | rfl | rfl | rfl | rfl
      · exact ⟨(26, [.reg ((x1 : Int) % 8)]), smallR_of (by decide) (smc (p_a n1.1 n1.2) (smn)), rfl⟩
      · exact ⟨(27, [.reg ((x1 : Int) % 8)]), smallR_of (by decide) (smc (p_a n1.1 n1.2) (smn)), rfl⟩
      · exact ⟨(28, [.reg ((x1 : Int) % 8)]), smallR_of (by decide) (smc (p_a n1.1 n1.2) (smn)), rfl⟩
      · exact ⟨(29, []), smallR_of (by decide) (smn), rfl⟩
      · exact ⟨(30, []), smallR_of (by decide) (smn), rfl⟩
      · exact ⟨(31, []), smallR_of (by decide) (smn), rfl⟩
    exact k row vv _ hs dvv g18
end
end L2.KR

namespace L2.KR
open PySem PySem.Spec PyProof.Rows K53
theorem Gs.store {K : PySem.W.Frag} {d r : Addr} {ds : List Nat} {H H' : Hp} {D : Addr} {xs : List V} {o : HO} (g : Gs K d r ds H H') (hd : Dr d r ds H) (nD : H D = none) (hD : H' D = some (.lst xs)) : Gs K d r ds H (upd H' D o) :=
  ⟨fun c u nc hc => by rw [upd_ne (ne_of_none hc nD)]; exact g.b c u nc hc, g.dr.upd (hd.ne nD) (hd.nr nD), g.kt.trans (.of_lst hD)⟩
theorem kns_at {k : Nat} (h : k < 2) : ([V.str "int", V.str "str"] : List V)[k]? = some (.str (kn k)) := by
  have e := kn_here k h
  have e2 : (kns.map V.str)[k]? = some (.str (kn k)) := by rw [List.getElem?_map, e]; rfl
  exact e2
section
variable {P : Program} {w : World} {K : PySem.W.Frag} {mg : Str → Option Value} {base : Heap}
def spLC (K : PySem.W.Frag) : Sp := fun vs H Q _ => ∃ d r ds, vs = [.ref d] ∧ Dr d r ds H ∧ ∀ c v H', SmallC c → Dp K H' v (datC c) → Gs K d r ds H H' → Q v H'
abbrev sLC : Stmt := top 44
theorem scLC : FnScope ["_law_d", "_law_kinds", "_law_many", "_law_k"] ["_law_d"] (defScope sLC) := ⟨rfl, rfl, rfl, by decide +kernel, rfl, by decide +kernel, by decide +kernel⟩
theorem ok_lc {f : Addr} {fd : FuncData} (F : Fun K "_law_code" "_law_code" sLC f fd) (T : Txt w K mg) (cLT : C8.Cal P w K mg base 1 "_law_take" (spDr K vTake) []) (cLR : C8.Cal P w K mg base 4 "_law_row" (spLR K) []) : FnOk P w K mg base CX0 5 f fd ["_law_d"] (spLC K) := by
  refine F.ok scLC (fun vs H Q E h => ?_) (fun cdv A outer s0 H vs Q E hr h => ?_)
  · obtain ⟨d, r, ds, rfl, _⟩ := h
    rfl
  · obtain ⟨d, r, ds, rfl, hd, k⟩ := h
    have hr1 : Room 1 _ := hr.mono (by decide)
    refine ⟨_, pss_cons (ps_set (i := 1) scLC.nd rfl (Or.inl rfl) (pe_tupleOf (by rfl) T.tup
        (pe_lc (own := [("_law_k", 3)]) (g := gName 3) (tt := tYes) rfl scLC.nd (pi_range1 (by rfl) T.range (pa_cons (pe_op op_mod (C8.pe_c cLT hr1 (by decide) (by rfl) (pa_cons (pv 0) pa_nil)) pe_int) pa_nil)) (blkOk_by (N := ["_law_d", "_law_kinds", "_law_many", "_law_k"]) (sc := defScope sLC) (by decide +kernel))
          (fun _ _ _ _ _ => pg_name (i := 3) scLC.nd rfl (Or.inl rfl)) (fun _ _ _ _ _ => pts_nil) (fun _ _ _ _ _ => pe_ix (show IxR _ (rIxL K) from ix_list) (pe_lst (pa_cons pe_str (pa_cons pe_str pa_nil))) (pe_op op_mod (C8.pe_c cLT hr1 (by decide) (by rfl) (pa_cons (pv 0) pa_nil)) pe_int) (fun _ _ => rfl)))))
      (pss_cons (ps_set (i := 2) scLC.nd rfl (Or.inr rfl) (pe_op op_add pe_int (pe_op op_mod (C8.pe_c cLT hr1 (by decide) (by rfl) (pa_cons (pv 0) pa_nil)) pe_int)))
      (pss_one (ps_ret (pe_tup (pa_cons (pv 1) (pa_cons (pe_tupleOf (by rfl) T.tup
        (pe_lc (own := [("_law_k", 3)]) (g := gName 3) (tt := tYes) rfl scLC.nd (pi_range1 (by rfl) T.range (pa_cons (pv 2) pa_nil)) (blkOk_by (N := ["_law_d", "_law_kinds", "_law_many", "_law_k"]) (sc := defScope sLC) (by decide +kernel))
          (fun _ _ _ _ _ => pg_name (i := 3) scLC.nd rfl (Or.inl rfl)) (fun _ _ _ _ _ => pts_nil) (fun _ _ _ _ _ => C8.pe_c cLR hr (by decide) (by rfl) (pa_cons (pv 0) (pa_cons (pv 2) pa_nil))))) pa_nil)))))), ?_⟩
    refine ⟨_, rfl, d, r, ds, rfl, hd, fun v dt H1 hv d1 b1 hd1 => ?_⟩
    have g1 : Gs K d r ds H H1 := (Gs.refl hd).but b1 hd1
    obtain ⟨x1, rfl⟩ := hv
    obtain rfl := d1.int_inv
    have e1 : (x1 : Int) % 5 = ((x1 % 5 : Nat) : Int) := by omega
    refine ⟨_, _, rfl, rfl, by show (0 : Int) < 5; decide, ((x1 % 5 : Nat) : Int), congrArg (fun z => [V.int z]) e1, by omega, by omega, fun D nD => ?_⟩
    refine lc_it walk_range (fun j H' => ∃ ks : List Nat, ks.length = j ∧ (∀ k ∈ ks, k < 2) ∧ Gs K d r ds H1 H' ∧ H' D = some (.lst (ks.map fun k => V.str (kn k)))) ⟨[], rfl, by simp, (Gs.refl hd1).same (Same.upd nD), upd_same⟩ (fun _ _ _ _ => trivial) ?_ ?_
    · rintro j x H3' H3 hj ⟨ks, hl, hk, g3, h3⟩ ⟨rfl, rfl⟩
      refine ⟨rfl, by show 2 ≤ sizeLine; decide, fun p np => ?_⟩
      have s4 : Same H3 (upd H3 p (.lst [.str "int", .str "str"])) := Same.upd np
      have l4 : upd H3 p (.lst [.str "int", .str "str"]) p = some (.lst [.str "int", .str "str"]) := upd_same
      generalize upd H3 p (.lst [.str "int", .str "str"]) = H4 at s4 l4 ⊢
      have g4 := g3.same s4
      refine ⟨_, rfl, d, r, ds, rfl, g4.dr, fun v dt H5 hv d5 b5 hd5 => ?_⟩
      have g5 := g4.but b5 hd5
      obtain ⟨x5, rfl⟩ := hv
      obtain rfl := d5.int_inv
      have l5 : H5 p = some (.lst [.str "int", .str "str"]) := b5 _ _ (g4.dr.ne0 l4) l4
      have h5 : H5 D = some (.lst (ks.map fun k => V.str (kn k))) := b5 _ _ (hd1.ne nD) (s4 _ _ h3)
      refine ⟨_, _, rfl, rfl, by show (0 : Int) < 2; decide, p, _, _, .str (kn (x5 % 2)), rfl, rfl, SqL.of l5, at_of (j := x5 % 2) (by show (x5 : Int) % 2 = _; omega) (kns_at (by omega)), ?_⟩
      refine ⟨_, h5, smallLt (by rw [List.length_map]; omega), ks ++ [x5 % 2], by rw [List.length_append, hl]; rfl, ?_, g5.store hd1 nD h5, ?_⟩
      · intro y hy
        rcases List.mem_append.mp hy with hy | hy
        · exact hk y hy
        · simp at hy
          omega
      · rw [upd_same, List.map_append]
        rfl
    · rintro H3 ⟨ks, hl, hk, g3, h3⟩
      refine .inl ⟨D, _, rfl, SqL.of h3, fun q nq => ?_⟩
      have s4 : Same H3 (upd H3 q (.tup (ks.map fun k => V.str (kn k)))) := Same.upd nq
      have dk4 : Dp K (upd H3 q (.tup (ks.map fun k => V.str (kn k)))) (.ref q) (.tuple (ks.map fun k => .str (kn k))) := .tup (SqT.of upd_same) (dp_strs kn ks)
      generalize upd H3 q (.tup (ks.map fun k => V.str (kn k))) = H4 at s4 dk4 ⊢
      have g4 := (g1.trans g3).same s4
      refine ⟨_, rfl, d, r, ds, rfl, g4.dr, fun v dt H5 hv d5 b5 hd5 => ?_⟩
      have dk5 := dp_keep (.of_dr b5 g4.dr) (show noL (.tuple (ks.map fun k => .str (kn k))) = true from noLs_map (fun _ => rfl) ks) dk4
      have g5 := g4.but b5 hd5
      obtain ⟨x5, rfl⟩ := hv
      obtain rfl := d5.int_inv
      have em : (1 : Int) + (x5 : Int) % 14 = ((1 + x5 % 14 : Nat) : Int) := by omega
      refine ⟨_, _, rfl, rfl, by show (0 : Int) < 14; decide, _, _, rfl, rfl, ?_⟩
      refine ⟨_, rfl, _, rfl, ((1 + x5 % 14 : Nat) : Int), congrArg (fun z => [V.int z]) em, by omega, by omega, fun D2 nD2 => ?_⟩
      refine lc_it walk_range (fun j H' => ∃ (rs : List K53.Row) (vs : List V), rs.length = j ∧ (∀ r ∈ rs, SmallR r) ∧ Gs K d r ds H5 H' ∧ H' D2 = some (.lst vs) ∧ DpAll K H' vs (rs.map datR)) ⟨[], [], rfl, by simp, (Gs.refl hd5).same (Same.upd nD2), upd_same, .nil⟩ (fun _ _ _ _ => trivial) ?_ ?_
      · rintro j x H6 H6' hj ⟨rs, vs, hl6, hk6, g6, h6, hd6⟩ ⟨rfl, rfl⟩
        refine ⟨rfl, _, rfl, _, rfl, d, r, ds, 1 + x5 % 14, congrArg (fun z => [V.ref d, V.int z]) em, by omega, by omega, g6.dr, fun row v H7 hrow d7 g7 => ?_⟩
        have h7 : H7 D2 = some (.lst vs) := g7.b _ _ (hd5.ne nD2) h6
        have hd7 := dps_keep g7.kt (noLs_map noL_datR rs) hd6
        refine ⟨_, h7, smallLt (by rw [hd6.length, List.length_map]; omega), rs ++ [row], vs ++ [v], by rw [List.length_append, hl6]; rfl, ?_, (g6.trans g7).store hd5 nD2 h7, upd_same, ?_⟩
        · intro y hy
          rcases List.mem_append.mp hy with hy | hy
          · exact hk6 y hy
          · simp at hy
            rw [hy]
            exact hrow
        · rw [List.map_append]
          exact (dps_keep (.of_lst h7) (noLs_map noL_datR rs) hd7).snoc (dp_keep (.of_lst h7) (noL_datR row) d7)
      · rintro H6 ⟨rs, vs, hl6, hk6, g6, h6, hd6⟩
        refine .inl ⟨D2, _, rfl, SqL.of h6, fun q2 nq2 => ?_⟩
        have s7 : Same H6 (upd H6 q2 (.tup vs)) := Same.upd nq2
        refine ⟨by show 2 ≤ sizeLine; decide, fun qc nqc => ?_⟩
        have s8 : Same (upd H6 q2 (.tup vs)) (upd (upd H6 q2 (.tup vs)) qc (.tup [.ref q, .ref q2])) := Same.upd nqc
        have dk6 := dp_keep g6.kt (show noL (.tuple (ks.map fun k => .str (kn k))) = true from noLs_map (fun _ => rfl) ks) dk5
        refine k (ks, rs) _ _ ⟨?_, hk, ?_, ?_, hk6⟩ ?_ (((g5.trans g6).same s7).same s8)
        · show ks.length ≤ 4
          omega
        · show 1 ≤ rs.length
          omega
        · show rs.length ≤ 14
          omega
        · exact .tup (SqT.of upd_same) (.cons (dk6.mono (s7.trans s8)) (.cons ((Dp.tup (SqT.of upd_same) (hd6.mono s7)).mono s8) .nil))
end
end L2.KR

namespace L2.KR
open PySem PySem.Spec PyProof.Rows K53
section
variable {P : Program} {w : World} {K : PySem.W.Frag} {mg : Str → Option Value} {base : Heap}
theorem pe_c0 {X : Cx} {k j : Nat} {x : Str} {sp : Sp} {dvs : List V} {p pos : Pos} (c : C8.Cal X.prog X.w X.K X.mg X.base k x sp dvs) (hr : Room j X.A) (hk : k ≤ j) (hg : Gl X x) (hdb : (x == ("__debug__" : Str)) = false := by decide) :
    PE X (.Call (.Name x p) [] [] pos) (tCall sp dvs C8.E0 tNil) := by
  obtain ⟨f, fd, ps, ds, F, hm, kp, b, d⟩ := c.ex
  exact pe_call0 F (hr.mono hk) hg hm kp b d C8.pass0 hdb
/-! ### _law_is_count -/
def spQC : Sp := fun vs H Q _ => ∃ n m : Int, vs = [.int n, .int m] ∧ Q (.bl (decide (0 ≤ n) && decide (n ≤ m))) H
abbrev sQC : Stmt := top 45
theorem scQC : FnScope ["_law_thing", "_law_most"] ["_law_thing", "_law_most"] (defScope sQC) := ⟨rfl, rfl, rfl, by decide +kernel, rfl, by decide +kernel, by decide +kernel⟩
theorem ok_qc {f : Addr} {fd : FuncData} (F : Fun K "_law_is_count" "_law_is_count" sQC f fd) (T : Txt w K mg) : FnOk P w K mg base CX0 1 f fd ["_law_thing", "_law_most"] spQC := by
  refine F.ok scQC (fun vs H Q E h => ?_) (fun cdv A outer s0 H vs Q E hr h => ?_)
  · obtain ⟨n, m, rfl, _⟩ := h
    rfl
  · refine ⟨_, pss_one (ps_ret (pe_and (pe_callB call_isi (by rfl) T.isi boot_isinstance (pa_cons (pv 0) (pa_cons (pe_bltn (v := .ty "int") (by rfl) T.int boot_int rfl) pa_nil))) (pe_and (pe_not (pe_callB call_isi (by rfl) T.isi boot_isinstance (pa_cons (pv 0) (pa_cons (pe_bltn (v := .ty "bool") (by rfl) T.bool boot_bool rfl) pa_nil)))) (pe_and (pe_cmpR op_le pe_int (pv 0) (nomark _)) (pe_one (pe_cmpR op_le (pv 0) (pv 1) (nomark _))))))), ?_⟩
    obtain ⟨n, m, rfl, k⟩ := h
    refine ⟨_, rfl, _, _, _, _, _, rfl, .ty _, tyx_int, kit_ty kit_ii, ⟨true, rfl, ?_⟩⟩
    refine ⟨_, rfl, _, _, _, _, _, rfl, .ty _, tyx_int, kit_ty kit_ib, ⟨false, rfl, ⟨true, rfl, ?_⟩⟩⟩
    refine ⟨_, rfl, _, _, rfl, rfl, _, rfl, ?_⟩
    cases e : decide ((0 : Int) ≤ n) with
    | false => rw [e] at k; exact k
    | true =>
      rw [e] at k
      exact ⟨_, rfl, _, rfl, _, _, rfl, rfl, k⟩
/-! ### _law_is_value -/
def spQV (K : PySem.W.Frag) : Sp := fun vs H Q _ => ∃ (v : V) (x : Prt), vs = [v] ∧ typP .value x ∧ okP .value x = true ∧ Dp K H v (datP x) ∧ ∀ H', Same H H' → Q (.bl true) H'
abbrev sQV : Stmt := top 46
theorem scQV : FnScope ["_law_thing", "_law_char"] ["_law_thing"] (defScope sQV) := ⟨rfl, rfl, rfl, by decide +kernel, rfl, by decide +kernel, by decide +kernel⟩
theorem ok_qv {f : Addr} {fd : FuncData} (F : Fun K "_law_is_value" "_law_is_value" sQV f fd) (T : Txt w K mg) : FnOk P w K mg base CX0 1 f fd ["_law_thing"] (spQV K) := by
  refine F.ok scQV (fun vs H Q E h => ?_) (fun cdv A outer s0 H vs Q E hr h => ?_)
  · obtain ⟨v, x, rfl, _⟩ := h
    rfl
  · obtain ⟨v, x, rfl, ht, ho, hd, k⟩ := h
    refine ⟨_, pss_cons (ps_if (PW.pt (pw_or (pt_not (pt_val (pe_callB call_isi (by rfl) T.isi boot_isinstance (pa_cons (pv 0) (pa_cons (pe_bltn (v := .ty "tuple") (by rfl) T.tup boot_tuple rfl) pa_nil))))) (pw_or1 (pt_cmpR op_ne (pe_callB call_len_seq (by rfl) T.len PySem.boot_len (pa_cons (pv 0) pa_nil)) pe_int (nomark _))))) (pss_one (ps_ret pe_bl)) pss_nil)
      (pss_cons (ps_if (pt_cmpR op_eq (pe_ix ix_tup (pv 0) pe_int (fun _ _ => rfl)) pe_str (nomark _)) (pss_one (ps_ret (pe_and (pe_callB call_isi (by rfl) T.isi boot_isinstance (pa_cons (pe_ix ix_tup (pv 0) pe_int (fun _ _ => rfl)) (pa_cons (pe_bltn (v := .ty "int") (by rfl) T.int boot_int rfl) pa_nil))) (pe_and (pe_not (pe_callB call_isi (by rfl) T.isi boot_isinstance (pa_cons (pe_ix ix_tup (pv 0) pe_int (fun _ _ => rfl)) (pa_cons (pe_bltn (v := .ty "bool") (by rfl) T.bool boot_bool rfl) pa_nil))))
        (pe_one (pe_cmpR op_lt (pe_callB call_abs (by rfl) T.abs boot_abs (pa_cons (pe_op op_add (pe_op op_mul pe_int (pe_ix ix_tup (pv 0) pe_int (fun _ _ => rfl))) pe_int) pa_nil)) (pe_op op_pow pe_int pe_int) (nomark _))))))) pss_nil)
      (pss_cons (ps_if (PW.pt (pw_or (pt_cmpR op_ne (pe_ix ix_tup (pv 0) pe_int (fun _ _ => rfl)) pe_str (nomark _)) (pw_or (pt_not (pt_val (pe_callB call_isi (by rfl) T.isi boot_isinstance (pa_cons (pe_ix ix_tup (pv 0) pe_int (fun _ _ => rfl)) (pa_cons (pe_bltn (v := .ty "str") (by rfl) T.str boot_str rfl) pa_nil))))) (pw_or1 (pt_cmpR op_gt (pe_callB call_len_str (by rfl) T.len PySem.boot_len (pa_cons (pe_ix ix_tup (pv 0) pe_int (fun _ _ => rfl)) pa_nil)) pe_int (nomark _)))))) (pss_one (ps_ret pe_bl)) pss_nil)
      (pss_one (ps_ret (pe_cmpR (op_eqD (units64 hr))
        (pe_lc (own := [("_law_char", 1)]) (g := gName 1) rfl scQV.nd (pi_str (pe_ix ix_tup (pv 0) pe_int (fun _ _ => rfl))) (blkOk_by (N := ["_law_thing", "_law_char"]) (sc := defScope sQV) (by decide +kernel))
          (fun _ _ _ _ _ => pg_name (i := 1) scQV.nd rfl (Or.inl rfl)) (fun _ _ _ _ _ => pts_one (PW.pt (pw_or (pt_cmpR op_lt_str (pv 1) pe_str (nomark _)) (pw_or (pt_cmpR op_gt_str (pv 1) pe_str (nomark _)) (pw_or1 (pt_cmpR (show OpR _ (compareOp .In) (rIn K false) from op_in_seq) (pe_callB call_ord (by rfl) T.ord boot_ord (pa_cons (pv 1) pa_nil)) (pe_tup (pa_cons pe_int (pa_cons pe_int (pa_cons pe_int pa_nil)))) (by rfl))))))) (fun _ _ _ _ _ => pv 1))
        (pe_lst pa_nil) (nomark _)))))), ?_⟩
    have h1v : typP .value x → (∃ i, x = .val i) ∨ ∃ t, x = .txt t := by
      intro h
      cases x <;> first | exact h.elim | exact .inl ⟨_, rfl⟩ | exact .inr ⟨_, rfl⟩
    rcases h1v ht with ⟨i, rfl⟩ | ⟨t, rfl⟩
    · obtain ⟨a, xs, rfl, hq, hda⟩ := hd.tup_inv
      cases hda with
      | cons h1 r1 =>
        cases r1 with
        | cons h2 r2 =>
          cases r2
          obtain rfl := h1.str_inv
          obtain rfl := h2.int_inv
          refine ⟨_, rfl, _, _, _, _, _, rfl, .ty _, tyx_sqT hq, kit_ty kit_tt, ⟨true, rfl, ?_⟩⟩
          refine ⟨_, rfl, a, _, rfl, .inr hq, rfl, false, rfl, ?_⟩
          refine ⟨_, rfl, a, _, 0, _, rfl, rfl, hq, rfl, rfl, _, rfl, ifT (decide_eq_true rfl) ?_⟩
          refine ⟨_, rfl, a, _, 1, _, rfl, rfl, hq, rfl, _, _, _, _, _, rfl, .ty _, tyx_int, kit_ty kit_ii, ⟨true, rfl, ?_⟩⟩
          refine ⟨_, rfl, a, _, 1, _, rfl, rfl, hq, rfl, _, _, _, _, _, rfl, .ty _, tyx_int, kit_ty kit_ib, ⟨false, rfl, ⟨true, rfl, ?_⟩⟩⟩
          have e63 : (2 : Int) ^ 63 = 9223372036854775808 := by decide
          obtain ⟨g1, g2⟩ := (show -2 ^ 63 ≤ i ∧ i < 2 ^ 63 from ht)
          rw [e63] at g1 g2
          refine ⟨_, rfl, a, _, 1, _, rfl, rfl, hq, rfl, _, _, rfl, rfl, .inl ⟨by decide, by decide⟩, _, _, rfl, rfl, _, rfl, _, _, rfl, rfl, ⟨by decide, by decide, by decide⟩, _, _, rfl, rfl, ?_⟩
          have e64 : (2 : Int) ^ (64 : Int).toNat = 18446744073709551616 := by decide
          have hb : (if 2 * i + 1 < 0 then -(2 * i + 1) else 2 * i + 1) < (2 : Int) ^ (64 : Int).toNat := by
            rw [e64]
            split <;> omega
          show Q (.bl (decide ((if 2 * i + 1 < 0 then -(2 * i + 1) else 2 * i + 1) < (2 : Int) ^ (64 : Int).toNat))) H
          rw [decide_eq_true hb]
          exact k H (fun _ _ e => e)
    · obtain ⟨a, xs, rfl, hq, hda⟩ := hd.tup_inv
      cases hda with
      | cons h1 r1 =>
        cases r1 with
        | cons h2 r2 =>
          cases r2
          obtain rfl := h1.str_inv
          obtain rfl := h2.str_inv
          have hl : (SX.S t).length = t.length := SX.S_len t
          have h32 : t.length ≤ 32 := of_decide_eq_true ho
          refine ⟨_, rfl, _, _, _, _, _, rfl, .ty _, tyx_sqT hq, kit_ty kit_tt, ⟨true, rfl, ?_⟩⟩
          refine ⟨_, rfl, a, _, rfl, .inr hq, rfl, false, rfl, ?_⟩
          refine ⟨_, rfl, a, _, 0, _, rfl, rfl, hq, rfl, rfl, _, rfl, ifF (decide_eq_false (by intro e; exact absurd (V.str.inj e) (by decide +kernel))) ?_⟩
          refine ⟨_, rfl, a, _, 0, _, rfl, rfl, hq, rfl, rfl, false, rfl, ?_⟩
          refine ⟨_, rfl, a, _, 1, _, rfl, rfl, hq, rfl, _, _, _, _, _, rfl, .ty _, tyx_str, kit_ty kit_ss, ⟨true, rfl, ?_⟩⟩
          refine ⟨_, rfl, a, _, 1, _, rfl, rfl, hq, rfl, _, rfl, by rw [hl]; exact small (by omega), _, _, rfl, rfl, false, ?_, ?_⟩
          · show V.bl (decide ((32 : Int) < (((SX.S t).length : Nat) : Int))) = V.bl false
            rw [hl, decide_eq_false (by omega)]
          refine ⟨_, rfl, a, _, 1, _, rfl, rfl, hq, rfl, _, rfl, fun D nD => ?_⟩
          refine lc_it walk_str (fun i H' => Same H H' ∧ H' D = some (.lst [])) ⟨Same.upd nD, upd_same⟩ (fun _ _ _ _ => True.intro) ?_ ?_
          · rintro i x H1 H1' hi ⟨s1, hD⟩ ⟨rfl, c, hcc, rfl⟩
            have hc' : t[i]? = some c := by
              have : (SX.S t).cps[i]? = some c := hcc
              simpa [SX.S] using this
            have hok := ht c (List.mem_of_getElem? hc')
            have ho' := hok
            unfold okChar at ho'
            simp only [Bool.and_eq_true, decide_eq_true_eq] at ho'
            refine ⟨rfl, ?_⟩
            refine ⟨_, rfl, _, _, rfl, rfl, _, rfl, ifF (by show decide (([c] : List Nat) < [32]) = false; rw [lt_one]; exact decide_eq_false (by omega)) ?_⟩
            refine ⟨_, rfl, _, _, rfl, rfl, _, rfl, ifF (by show decide (([126] : List Nat) < [c]) = false; rw [lt_one]; exact decide_eq_false (by omega)) ?_⟩
            refine ⟨_, rfl, _, rfl, rfl, by show 3 ≤ sizeLine; decide, fun p np => ?_⟩
            refine ⟨p, _, rfl, .inr (SqT.of upd_same), rfl, rfl, _, rfl, ifF (okChar_no hok) ?_⟩
            exact ⟨s1.trans (Same.upd np), Same.upd np _ _ hD⟩
          · rintro H1 ⟨s1, hD⟩
            refine ⟨Nat.zero_le _, fun q nq => ?_⟩
            have s2 : Same H1 (upd H1 q (.lst [])) := Same.upd nq
            exact ⟨.list [], .list [], .lst (SqL.of (s2 _ _ hD)) .nil, .lst (SqL.of upd_same) .nil, rfl, rfl, k _ (s1.trans s2)⟩
end
end L2.KR

namespace L2.KR
open PySem PySem.Spec PyProof.Rows K53
/-! ### _law_sorts -/
def lc : Srt → Nat
  | .d => 100
  | .a => 100
  | .mb => 109
  | .k => 107
  | .p => 112
  | .i => 112
  | .t => 112
  | .value => 118
  | .word => 119
  | .sign => 115
  | .compare => 99
  | .sort => 114
  | .keys => 120
  | .members => 121
def lsr (j : Nat) : Str := SX.S ((srt j).map lc)
def kA : List (Key × V) := [(.inr "const", .str "dv"), (.inr "view", .str "dw"), (.inr "arg", .str "dk"), (.inr "reg", .str "dk"), (.inr "get", .str "dp"), (.inr "keep", .str "pd"), (.inr "global", .str "dp"), (.inr "thread", .str "dp")]
def kB : List (Key × V) := [(.inr "array", .str "dpx"), (.inr "op", .str "dsdd"), (.inr "compare", .str "dcdd"), (.inr "minus", .str "dd"), (.inr "not", .str "dd"), (.inr "len", .str "dd"), (.inr "cat", .str "ddd"), (.inr "sub", .str "dddd")]
def kC : List (Key × V) := [(.inr "text", .str "dd"), (.inr "byte", .str "dd"), (.inr "spec", .str "d"), (.inr "jump", .str "p"), (.inr "zero", .str "dp"), (.inr "setglobal", .str "pd"), (.inr "setthread", .str "pd")]
def kD : List (Key × V) := [(.inr "setarray", .str "pxd"), (.inr "record", .str "ry"), (.inr "put", .str "pxm"), (.inr "speculate", .str "d"), (.inr "commit", .str "d"), (.inr "discard", .str "d"), (.inr "stop", .str "")]
def kE : List (Key × V) := [(.inr "skip", .str ""), (.inr "end", .str "")]
def lkvs : List (Key × V) := (List.range 32).map fun j => (.inr (wd j), .str (lsr j))
theorem kA_eq : mergeK [] kA = kA := by decide +kernel
theorem kB_eq : mergeK [] kB = kB := by decide +kernel
theorem kC_eq : mergeK [] kC = kC := by decide +kernel
theorem kD_eq : mergeK [] kD = kD := by decide +kernel
theorem kE_eq : mergeK [] kE = kE := by decide +kernel
theorem kAll : mergeK (mergeK (mergeK (mergeK kA kB) kC) kD) kE = lkvs := by decide +kernel
theorem lk_get : ∀ j, j < 32 → some (V.str (lsr j)) = valV lkvs (Sum.inr (wd j)) := by decide +kernel
section
variable {P : Program} {w : World} {K : PySem.W.Frag} {mg : Str → Option Value} {base : Heap}
def spQS : Sp := fun vs H Q _ => vs = [] ∧ ∀ H' p, Same H H' → H p = none → H' p = some (.dK lkvs) → Q (.ref p) H'
abbrev sQS : Stmt := top 47
theorem scQS : FnScope ["_law_sorts_here", "_law_more", "_law_last", "_law_rest"] [] (defScope sQS) := ⟨rfl, rfl, rfl, by decide +kernel, rfl, by decide +kernel, by decide +kernel⟩
theorem ok_qs {f : Addr} {fd : FuncData} (F : Fun K "_law_sorts" "_law_sorts" sQS f fd) (T : Txt w K mg) : FnOk P w K mg base CX0 1 f fd [] spQS := by
  refine F.ok scQS (fun vs H Q E h => ?_) (fun cdv A outer s0 H vs Q E hr h => ?_)
  · obtain ⟨rfl, _⟩ := h
    rfl
  · obtain ⟨rfl, k⟩ := h
    refine ⟨_, pss_cons (ps_set (i := 0) scQS.nd rfl (Or.inl rfl) (pe_disp (pps_cons pe_str pe_str (pps_cons pe_str pe_str (pps_cons pe_str pe_str (pps_cons pe_str pe_str (pps_cons pe_str pe_str (pps_cons pe_str pe_str (pps_cons pe_str pe_str (pps_cons pe_str pe_str pps_nil)))))))) rfl rfl (by simp) (by decide)))
      (pss_cons (ps_set (i := 1) scQS.nd rfl (Or.inl rfl) (pe_disp (pps_cons pe_str pe_str (pps_cons pe_str pe_str (pps_cons pe_str pe_str (pps_cons pe_str pe_str (pps_cons pe_str pe_str (pps_cons pe_str pe_str (pps_cons pe_str pe_str (pps_cons pe_str pe_str pps_nil)))))))) rfl rfl (by simp) (by decide)))
      (pss_cons (ps_set (i := 2) scQS.nd rfl (Or.inl rfl) (pe_disp (pps_cons pe_str pe_str (pps_cons pe_str pe_str (pps_cons pe_str pe_str (pps_cons pe_str pe_str (pps_cons pe_str pe_str (pps_cons pe_str pe_str (pps_cons pe_str pe_str pps_nil))))))) rfl rfl (by simp) (by decide)))
      (pss_cons (ps_set (i := 3) scQS.nd rfl (Or.inl rfl) (pe_disp (pps_cons pe_str pe_str (pps_cons pe_str pe_str (pps_cons pe_str pe_str (pps_cons pe_str pe_str (pps_cons pe_str pe_str (pps_cons pe_str pe_str (pps_cons pe_str pe_str pps_nil))))))) rfl rfl (by simp) (by decide)))
      (pss_cons (ps_expr (pe_bm PySem.F.plainAttrs_dict PySem.F.slot_dict_update PySem.F.type_dict_update mt_update (pv 0) (pa_cons (pv 1) pa_nil)))
      (pss_cons (ps_expr (pe_bm PySem.F.plainAttrs_dict PySem.F.slot_dict_update PySem.F.type_dict_update mt_update (pv 0) (pa_cons (pv 2) pa_nil)))
      (pss_cons (ps_expr (pe_bm PySem.F.plainAttrs_dict PySem.F.slot_dict_update PySem.F.type_dict_update mt_update (pv 0) (pa_cons (pv 3) pa_nil)))
      (pss_cons (ps_expr (pe_bm PySem.F.plainAttrs_dict PySem.F.slot_dict_update PySem.F.type_dict_update mt_update (pv 0) (pa_cons (pe_disp (pps_cons pe_str pe_str (pps_cons pe_str pe_str pps_nil)) rfl rfl (by simp) (by decide)) pa_nil)))
      (pss_one (ps_ret (pv 0)))))))))), ?_⟩
    refine fun a na => ⟨upd_same, kA, rfl, by show 8 ≤ 15; decide, ?_⟩
    have s1 : Same H (upd (upd H a (.dK [])) a (.dK (mergeK [] kA))) := (Same.upd na).updAt na
    have h1 : upd (upd H a (.dK [])) a (.dK (mergeK [] kA)) a = some (.dK kA) := by rw [upd_same, kA_eq]
    generalize upd (upd H a (.dK [])) a (.dK (mergeK [] kA)) = H1 at s1 h1 ⊢
    refine fun b nb => ⟨upd_same, kB, rfl, by show 8 ≤ 15; decide, ?_⟩
    have s2 : Same H1 (upd (upd H1 b (.dK [])) b (.dK (mergeK [] kB))) := (Same.upd nb).updAt nb
    have h2 : upd (upd H1 b (.dK [])) b (.dK (mergeK [] kB)) b = some (.dK kB) := by rw [upd_same, kB_eq]
    generalize upd (upd H1 b (.dK [])) b (.dK (mergeK [] kB)) = H2 at s2 h2 ⊢
    refine fun c nc => ⟨upd_same, kC, rfl, by show 7 ≤ 15; decide, ?_⟩
    have s3 : Same H2 (upd (upd H2 c (.dK [])) c (.dK (mergeK [] kC))) := (Same.upd nc).updAt nc
    have h3 : upd (upd H2 c (.dK [])) c (.dK (mergeK [] kC)) c = some (.dK kC) := by rw [upd_same, kC_eq]
    generalize upd (upd H2 c (.dK [])) c (.dK (mergeK [] kC)) = H3 at s3 h3 ⊢
    refine fun e ne => ⟨upd_same, kD, rfl, by show 7 ≤ 15; decide, ?_⟩
    have s4 : Same H3 (upd (upd H3 e (.dK [])) e (.dK (mergeK [] kD))) := (Same.upd ne).updAt ne
    have h4 : upd (upd H3 e (.dK [])) e (.dK (mergeK [] kD)) e = some (.dK kD) := by rw [upd_same, kD_eq]
    generalize upd (upd H3 e (.dK [])) e (.dK (mergeK [] kD)) = H4 at s4 h4 ⊢
    have g1 : H4 a = some (.dK kA) := s4 _ _ (s3 _ _ (s2 _ _ h1))
    have g2 : H4 b = some (.dK kB) := s4 _ _ (s3 _ _ h2)
    have g3 : H4 c = some (.dK kC) := s4 _ _ h3
    have sH : Same H H4 := s1.trans (s2.trans (s3.trans s4))
    have nab : a ≠ b := ne_of_none h1 nb
    have nac : a ≠ c := ne_of_none (s2 _ _ h1) nc
    have nae : a ≠ e := ne_of_none (s3 _ _ (s2 _ _ h1)) ne
    have sz : ∀ l m : List (Key × V), l.length ≤ 100 → m.length ≤ 100 → l.length + m.length ≤ sizeLine := fun l m h1 h2 => small (by omega)
    have lAB : (mergeK kA kB).length = 16 := by decide +kernel
    have lABC : (mergeK (mergeK kA kB) kC).length = 23 := by decide +kernel
    have lABCD : (mergeK (mergeK (mergeK kA kB) kC) kD).length = 30 := by decide +kernel
    refine ⟨_, rfl, .inr (.inr (.inl ⟨rfl, .inl ⟨_, g1⟩⟩)), _, rfl, a, b, kA, kB, rfl, rfl, nab, g1, g2, sz _ _ (by decide) (by decide), ?_⟩
    have u1 : upd H4 a (.dK (mergeK kA kB)) a = some (.dK (mergeK kA kB)) := upd_same
    have u1c : upd H4 a (.dK (mergeK kA kB)) c = some (.dK kC) := by rw [upd_ne (Ne.symm nac)]; exact g3
    have u1e : upd H4 a (.dK (mergeK kA kB)) e = some (.dK kD) := by rw [upd_ne (Ne.symm nae)]; exact h4
    have t1 : Same H (upd H4 a (.dK (mergeK kA kB))) := sH.updAt na
    generalize upd H4 a (.dK (mergeK kA kB)) = H5 at u1 u1c u1e t1 ⊢
    refine ⟨_, rfl, .inr (.inr (.inl ⟨rfl, .inl ⟨_, u1⟩⟩)), _, rfl, a, c, _, kC, rfl, rfl, nac, u1, u1c, sz _ _ (by rw [lAB]; decide) (by decide), ?_⟩
    have u2 : upd H5 a (.dK (mergeK (mergeK kA kB) kC)) a = some (.dK (mergeK (mergeK kA kB) kC)) := upd_same
    have u2e : upd H5 a (.dK (mergeK (mergeK kA kB) kC)) e = some (.dK kD) := by rw [upd_ne (Ne.symm nae)]; exact u1e
    have t2 : Same H (upd H5 a (.dK (mergeK (mergeK kA kB) kC))) := t1.updAt na
    generalize upd H5 a (.dK (mergeK (mergeK kA kB) kC)) = H6 at u2 u2e t2 ⊢
    refine ⟨_, rfl, .inr (.inr (.inl ⟨rfl, .inl ⟨_, u2⟩⟩)), _, rfl, a, e, _, kD, rfl, rfl, nae, u2, u2e, sz _ _ (by rw [lABC]; decide) (by decide), ?_⟩
    have u3 : upd H6 a (.dK (mergeK (mergeK (mergeK kA kB) kC) kD)) a = some (.dK (mergeK (mergeK (mergeK kA kB) kC) kD)) := upd_same
    have t3 : Same H (upd H6 a (.dK (mergeK (mergeK (mergeK kA kB) kC) kD))) := t2.updAt na
    generalize upd H6 a (.dK (mergeK (mergeK (mergeK kA kB) kC) kD)) = H7 at u3 t3 ⊢
    refine ⟨_, rfl, .inr (.inr (.inl ⟨rfl, .inl ⟨_, u3⟩⟩)), fun g ng => ⟨upd_same, kE, rfl, by show 2 ≤ 15; decide, ?_⟩⟩
    have s8 : Same H7 (upd (upd H7 g (.dK [])) g (.dK (mergeK [] kE))) := (Same.upd ng).updAt ng
    have h8 : upd (upd H7 g (.dK [])) g (.dK (mergeK [] kE)) g = some (.dK kE) := by rw [upd_same, kE_eq]
    generalize upd (upd H7 g (.dK [])) g (.dK (mergeK [] kE)) = H8 at s8 h8 ⊢
    refine ⟨a, g, _, kE, rfl, rfl, ne_of_none u3 ng, s8 _ _ u3, h8, sz _ _ (by rw [lABCD]; decide) (by decide), ?_⟩
    refine ⟨_, rfl, ?_⟩
    refine k _ a ((t3.trans s8).updAt na) na ?_
    rw [upd_same, kAll]
end
end L2.KR

namespace L2.KR
open PySem PySem.Spec PyProof.Rows K53
/-! ### _law_is_part -/
def bigM : Nat := 10 ^ 60
def ls (s : Srt) : Str := ⟨#[lc s]⟩
theorem lsT {s : Srt} {x : Str} (h : ls s = x) : decide (V.str (ls s) = V.str x) = true := decide_eq_true (congrArg V.str h)
theorem lsF {s : Srt} {x : Str} (h : ls s ≠ x) : decide (V.str (ls s) = V.str x) = false := decide_eq_false fun e => h (V.str.inj e)
theorem inv_cw {c j : Nat} (h : j < (cws c).length) : inV (.str (cw c j)) ((cws c).map V.str) = true := inv_mem (List.mem_of_getElem? (cw_here h))
def spQP (K : PySem.W.Frag) : Sp := fun vs H Q _ => ∃ (s : Srt) (v : V) (x : Prt), vs = [.str (ls s), v] ∧ typP s x ∧ okP s x = true ∧ cntP bigM x ∧ Dp K H v (datP x) ∧ ∀ H', Same H H' → Q (.bl true) H'
abbrev sQP : Stmt := top 48
section
variable {P : Program} {w : World} {K : PySem.W.Frag} {mg : Str → Option Value} {base : Heap}
theorem scQP : FnScope ["_law_sort", "_law_thing", "_law_words", "_law_one"] ["_law_sort", "_law_thing"] (defScope sQP) := ⟨rfl, rfl, rfl, by decide +kernel, rfl, by decide +kernel, by decide +kernel⟩
theorem ok_qp {f : Addr} {fd : FuncData} (F : Fun K "_law_is_part" "_law_is_part" sQP f fd) (T : Txt w K mg) (cQC : C8.Cal P w K mg base 1 "_law_is_count" spQC []) (cQV : C8.Cal P w K mg base 1 "_law_is_value" (spQV K) []) : FnOk P w K mg base CX0 2 f fd ["_law_sort", "_law_thing"] (spQP K) := by
  refine F.ok scQP (fun vs H Q E h => ?_) (fun cdv A outer s0 H vs Q E hr h => ?_)
  · obtain ⟨s, v, x, rfl, _⟩ := h
    rfl
  · obtain ⟨s, v, x, rfl, ht, ho, hc, hd, k⟩ := h
    refine ⟨_, pss_cons (ps_if (pt_cmpR op_eq (pv 0) pe_str (nomark _)) (pss_one (ps_ret (C8.pe_c cQC hr (by decide) (by rfl) (pa_cons (pv 1) (pa_cons pe_int pa_nil))))) pss_nil)
      (pss_cons (ps_if (pt_cmpR op_eq (pv 0) pe_str (nomark _)) (pss_one (ps_ret (pe_or (C8.pe_c cQC hr (by decide) (by rfl) (pa_cons (pv 1) (pa_cons pe_int pa_nil))) (pe_one (pe_and (pe_callB call_isi (by rfl) T.isi boot_isinstance (pa_cons (pv 1) (pa_cons (pe_bltn (v := .ty "int") (by rfl) T.int boot_int rfl) pa_nil))) (pe_one (pe_cmpR op_eq (pv 1) (pe_un un_neg pe_int) (nomark _)))))))) pss_nil)
      (pss_cons (ps_if (pt_cmpR op_eq (pv 0) pe_str (nomark _)) (pss_one (ps_ret (C8.pe_c cQC hr (by decide) (by rfl) (pa_cons (pv 1) (pa_cons pe_int pa_nil))))) pss_nil)
      (pss_cons (ps_if (pt_cmpR op_eq (pv 0) pe_str (nomark _)) (pss_one (ps_ret (C8.pe_c cQC hr (by decide) (by rfl) (pa_cons (pv 1) (pa_cons (pe_op op_pow pe_int pe_int) pa_nil))))) pss_nil)
      (pss_cons (ps_if (pt_cmpR op_eq (pv 0) pe_str (nomark _)) (pss_one (ps_ret (C8.pe_c cQV hr (by decide) (by rfl) (pa_cons (pv 1) pa_nil)))) pss_nil)
      (pss_cons (ps_if (PW.pt (pw_or (pt_cmpR op_eq (pv 0) pe_str (nomark _)) (pw_or1 (pt_cmpR op_eq (pv 0) pe_str (nomark _))))) (pss_one (ps_ret (pe_and (pe_callB call_isi (by rfl) T.isi boot_isinstance (pa_cons (pv 1) (pa_cons (pe_bltn (v := .ty "tuple") (by rfl) T.tup boot_tuple rfl) pa_nil))) (pe_one (pe_cmpR (op_eqD (units64 hr))
          (pe_lc (own := [("_law_one", 3)]) (g := gName 3) rfl scQP.nd (pi_tup (pv 1)) (blkOk_by (N := ["_law_sort", "_law_thing", "_law_words", "_law_one"]) (sc := defScope sQP) (by decide +kernel))
            (fun _ _ _ _ _ => pg_name (i := 3) scQP.nd rfl (Or.inl rfl)) (fun _ _ _ _ _ => pts_one (pt_not (pt_val (C8.pe_c cQC hr (by decide) (by rfl) (pa_cons (pv 3) (pa_cons (pe_op op_pow pe_int pe_int) pa_nil)))))) (fun _ _ _ _ _ => pv 3)) (pe_lst pa_nil) (nomark _)))))) pss_nil)
      (pss_cons (ps_set (i := 2) scQP.nd rfl (Or.inl rfl) (pe_disp (pps_cons pe_str (pe_lst (pa_cons pe_str (pa_cons pe_str (pa_cons pe_str (pa_cons pe_str (pa_cons pe_str (pa_cons pe_str pa_nil))))))) (pps_cons pe_str (pe_lst (pa_cons pe_str (pa_cons pe_str (pa_cons pe_str (pa_cons pe_str (pa_cons pe_str pa_nil)))))) (pps_cons pe_str (pe_lst (pa_cons pe_str (pa_cons pe_str pa_nil))) pps_nil))) rfl rfl (by simp) (by decide)))
      (pss_cons (ps_dput (units1 hr) (pv 2) pe_str (pe_lst (pa_cons pe_str (pa_cons pe_str (pa_cons pe_str (pa_cons pe_str (pa_cons pe_str (pa_cons pe_str pa_nil))))))) rfl)
      (pss_one (ps_ret (pe_and (pe_callB call_isi (by rfl) T.isi boot_isinstance (pa_cons (pv 1) (pa_cons (pe_bltn (v := .ty "str") (by rfl) T.str boot_str rfl) pa_nil))) (pe_one (pe_cmpR op_in_seq (pv 1) (pe_dget (units1 hr) (pv 2) (pv 0) (fun _ _ => rfl)) (by rfl))))))))))))), ?_⟩
    have e60 : (10 : Int) ^ (60 : Int).toNat = ((bigM : Nat) : Int) := by decide +kernel
    -- the counts
    have hreg : ∀ (n m : Int), 0 ≤ n → n ≤ m → (decide (0 ≤ n) && decide (n ≤ m)) = true := fun n m h1 h2 => by rw [decide_eq_true h1, decide_eq_true h2]; rfl
    have hbig : ∀ n : Nat, n ≤ bigM → (decide ((0 : Int) ≤ (n : Int)) && decide ((n : Int) ≤ (10 : Int) ^ (60 : Int).toNat)) = true := fun n h => by
      rw [e60]
      exact hreg _ _ (Int.natCast_nonneg n) (by omega)
    have k0 := k H (fun _ _ e => e)
    cases s
    case d =>
      cases x <;> first | exact False.elim ht | skip
      rename_i n
      obtain rfl := hd.int_inv
      refine ⟨_, rfl, rfl, _, rfl, ifT (lsT (by decide +kernel)) ?_⟩
      have ho' : (decide (0 ≤ n) && decide (n ≤ 7)) = true := ho
      refine ⟨_, rfl, n, 7, rfl, ?_⟩
      rw [ho']
      exact k0
    case a =>
      cases x <;> first | exact False.elim ht | skip
      rename_i n
      obtain rfl := hd.int_inv
      refine ⟨_, rfl, rfl, _, rfl, ifT (lsT (by decide +kernel)) ?_⟩
      have ho' : (decide (0 ≤ n) && decide (n ≤ 7)) = true := ho
      refine ⟨_, rfl, n, 7, rfl, ?_⟩
      rw [ho']
      exact k0
    case mb =>
      cases x <;> first | exact False.elim ht | skip
      rename_i n
      obtain rfl := hd.int_inv
      refine ⟨_, rfl, rfl, _, rfl, ifF (lsF (by decide +kernel)) ?_⟩
      refine ⟨_, rfl, rfl, _, rfl, ifT (lsT (by decide +kernel)) ?_⟩
      have ho' : ((decide (0 ≤ n) && decide (n ≤ 7)) || decide (n = -1)) = true := ho
      refine ⟨_, rfl, n, 7, rfl, ?_⟩
      cases e : (decide (0 ≤ n) && decide (n ≤ 7)) with
      | true => exact ⟨true, rfl, k0⟩
      | false =>
        rw [e, Bool.false_or] at ho'
        refine ⟨false, rfl, ?_⟩
        refine ⟨_, rfl, _, _, _, _, _, rfl, .ty _, tyx_int, kit_ty kit_ii, ⟨true, rfl, ?_⟩⟩
        refine ⟨_, rfl, _, rfl, rfl, ?_⟩
        show Q (.bl (decide (V.int n = V.int (-1)))) H
        rw [decide_eq_true (congrArg V.int (of_decide_eq_true ho'))]
        exact k0
    case k =>
      cases x <;> first | exact False.elim ht | skip
      rename_i n
      obtain rfl := hd.int_inv
      refine ⟨_, rfl, rfl, _, rfl, ifF (lsF (by decide +kernel)) ?_⟩
      refine ⟨_, rfl, rfl, _, rfl, ifF (lsF (by decide +kernel)) ?_⟩
      refine ⟨_, rfl, rfl, _, rfl, ifT (lsT (by decide +kernel)) ?_⟩
      have ho' : (decide (0 ≤ n) && decide (n ≤ 3)) = true := ho
      refine ⟨_, rfl, n, 3, rfl, ?_⟩
      rw [ho']
      exact k0
    case p =>
      cases x <;> first | exact False.elim ht | skip
      rename_i n
      obtain rfl := hd.int_inv
      refine ⟨_, rfl, rfl, _, rfl, ifF (lsF (by decide +kernel)) ?_⟩
      refine ⟨_, rfl, rfl, _, rfl, ifF (lsF (by decide +kernel)) ?_⟩
      refine ⟨_, rfl, rfl, _, rfl, ifF (lsF (by decide +kernel)) ?_⟩
      refine ⟨_, rfl, rfl, _, rfl, ifT (lsT (by decide +kernel)) ?_⟩
      refine ⟨_, rfl, _, _, rfl, rfl, ⟨by decide, by decide, by decide⟩, (n : Int), _, rfl, ?_⟩
      rw [hbig n hc]
      exact k0
    case i =>
      cases x <;> first | exact False.elim ht | skip
      rename_i n
      obtain rfl := hd.int_inv
      refine ⟨_, rfl, rfl, _, rfl, ifF (lsF (by decide +kernel)) ?_⟩
      refine ⟨_, rfl, rfl, _, rfl, ifF (lsF (by decide +kernel)) ?_⟩
      refine ⟨_, rfl, rfl, _, rfl, ifF (lsF (by decide +kernel)) ?_⟩
      refine ⟨_, rfl, rfl, _, rfl, ifT (lsT (by decide +kernel)) ?_⟩
      refine ⟨_, rfl, _, _, rfl, rfl, ⟨by decide, by decide, by decide⟩, (n : Int), _, rfl, ?_⟩
      rw [hbig n hc]
      exact k0
    case t =>
      cases x <;> first | exact False.elim ht | skip
      rename_i n
      obtain rfl := hd.int_inv
      refine ⟨_, rfl, rfl, _, rfl, ifF (lsF (by decide +kernel)) ?_⟩
      refine ⟨_, rfl, rfl, _, rfl, ifF (lsF (by decide +kernel)) ?_⟩
      refine ⟨_, rfl, rfl, _, rfl, ifF (lsF (by decide +kernel)) ?_⟩
      refine ⟨_, rfl, rfl, _, rfl, ifT (lsT (by decide +kernel)) ?_⟩
      refine ⟨_, rfl, _, _, rfl, rfl, ⟨by decide, by decide, by decide⟩, (n : Int), _, rfl, ?_⟩
      rw [hbig n hc]
      exact k0
    case value =>
      refine ⟨_, rfl, rfl, _, rfl, ifF (lsF (by decide +kernel)) ?_⟩
      refine ⟨_, rfl, rfl, _, rfl, ifF (lsF (by decide +kernel)) ?_⟩
      refine ⟨_, rfl, rfl, _, rfl, ifF (lsF (by decide +kernel)) ?_⟩
      refine ⟨_, rfl, rfl, _, rfl, ifF (lsF (by decide +kernel)) ?_⟩
      refine ⟨_, rfl, rfl, _, rfl, ifT (lsT (by decide +kernel)) ?_⟩
      exact ⟨_, rfl, v, x, rfl, ht, ho, hd, k⟩
    case keys =>
      cases x <;> first | exact False.elim ht | skip
      rename_i l
      refine ⟨_, rfl, rfl, _, rfl, ifF (lsF (by decide +kernel)) ?_⟩
      refine ⟨_, rfl, rfl, _, rfl, ifF (lsF (by decide +kernel)) ?_⟩
      refine ⟨_, rfl, rfl, _, rfl, ifF (lsF (by decide +kernel)) ?_⟩
      refine ⟨_, rfl, rfl, _, rfl, ifF (lsF (by decide +kernel)) ?_⟩
      refine ⟨_, rfl, rfl, _, rfl, ifF (lsF (by decide +kernel)) ?_⟩
      refine ⟨_, rfl, rfl, true, congrArg V.bl (lsT (by decide +kernel)), ?_⟩
      obtain ⟨a, xs, rfl, hq, hda⟩ := hd.tup_inv
      obtain rfl := hda.nats_inv
      refine ⟨_, rfl, _, _, _, _, _, rfl, .ty _, tyx_sqT hq, kit_ty kit_tt, ⟨true, rfl, ?_⟩⟩
      refine ⟨_, rfl, a, rfl, ⟨_, hq⟩, fun D nD => ?_⟩
      refine lc_it walk_tup (fun i H' => Same H H' ∧ H' D = some (.lst [])) ⟨Same.upd nD, upd_same⟩ (fun _ _ _ q => q.1.seqT hq) ?_ ?_
      · rintro i y H1 H1' hi ⟨s1, hD⟩ ⟨rfl, hy⟩
        obtain ⟨n, hn, rfl⟩ := nats_get hy
        refine ⟨rfl, ?_⟩
        refine ⟨_, rfl, _, _, rfl, rfl, ⟨by decide, by decide, by decide⟩, (n : Int), _, rfl, ?_⟩
        rw [hbig n (hc n (List.mem_of_getElem? hn))]
        exact ⟨true, rfl, s1, hD⟩
      · rintro H1 ⟨s1, hD⟩
        refine ⟨Nat.zero_le _, fun q nq => ?_⟩
        have s2 : Same H1 (upd H1 q (.lst [])) := Same.upd nq
        exact ⟨.list [], .list [], .lst (SqL.of (s2 _ _ hD)) .nil, .lst (SqL.of upd_same) .nil, rfl, rfl, k _ (s1.trans s2)⟩
    case members =>
      cases x <;> first | exact False.elim ht | skip
      rename_i l
      refine ⟨_, rfl, rfl, _, rfl, ifF (lsF (by decide +kernel)) ?_⟩
      refine ⟨_, rfl, rfl, _, rfl, ifF (lsF (by decide +kernel)) ?_⟩
      refine ⟨_, rfl, rfl, _, rfl, ifF (lsF (by decide +kernel)) ?_⟩
      refine ⟨_, rfl, rfl, _, rfl, ifF (lsF (by decide +kernel)) ?_⟩
      refine ⟨_, rfl, rfl, _, rfl, ifF (lsF (by decide +kernel)) ?_⟩
      refine ⟨_, rfl, rfl, false, congrArg V.bl (lsF (by decide +kernel)), ?_⟩
      refine ⟨_, rfl, rfl, true, congrArg V.bl (lsT (by decide +kernel)), ?_⟩
      obtain ⟨a, xs, rfl, hq, hda⟩ := hd.tup_inv
      obtain rfl := hda.nats_inv
      refine ⟨_, rfl, _, _, _, _, _, rfl, .ty _, tyx_sqT hq, kit_ty kit_tt, ⟨true, rfl, ?_⟩⟩
      refine ⟨_, rfl, a, rfl, ⟨_, hq⟩, fun D nD => ?_⟩
      refine lc_it walk_tup (fun i H' => Same H H' ∧ H' D = some (.lst [])) ⟨Same.upd nD, upd_same⟩ (fun _ _ _ q => q.1.seqT hq) ?_ ?_
      · rintro i y H1 H1' hi ⟨s1, hD⟩ ⟨rfl, hy⟩
        obtain ⟨n, hn, rfl⟩ := nats_get hy
        refine ⟨rfl, ?_⟩
        refine ⟨_, rfl, _, _, rfl, rfl, ⟨by decide, by decide, by decide⟩, (n : Int), _, rfl, ?_⟩
        rw [hbig n (hc n (List.mem_of_getElem? hn))]
        exact ⟨true, rfl, s1, hD⟩
      · rintro H1 ⟨s1, hD⟩
        refine ⟨Nat.zero_le _, fun q nq => ?_⟩
        have s2 : Same H1 (upd H1 q (.lst [])) := Same.upd nq
        exact ⟨.list [], .list [], .lst (SqL.of (s2 _ _ hD)) .nil, .lst (SqL.of upd_same) .nil, rfl, rfl, k _ (s1.trans s2)⟩
    case word =>
      cases x <;> first | exact False.elim ht | skip
      rename_i c j
      obtain ⟨rfl, hj⟩ := (show c = 0 ∧ j < nC 0 from ht)
      obtain rfl := hd.str_inv
      refine ⟨_, rfl, rfl, _, rfl, ifF (lsF (by decide +kernel)) ?_⟩
      refine ⟨_, rfl, rfl, _, rfl, ifF (lsF (by decide +kernel)) ?_⟩
      refine ⟨_, rfl, rfl, _, rfl, ifF (lsF (by decide +kernel)) ?_⟩
      refine ⟨_, rfl, rfl, _, rfl, ifF (lsF (by decide +kernel)) ?_⟩
      refine ⟨_, rfl, rfl, _, rfl, ifF (lsF (by decide +kernel)) ?_⟩
      refine ⟨_, rfl, rfl, false, congrArg V.bl (lsF (by decide +kernel)), ?_⟩
      refine ⟨_, rfl, rfl, false, congrArg V.bl (lsF (by decide +kernel)), ?_⟩
      intro dd nd
      have s0 : Same H (upd H dd (.dK [])) := Same.upd nd
      have h0 : upd H dd (.dK []) dd = some (.dK []) := upd_same
      generalize upd H dd (.dK []) = H0 at s0 h0 ⊢
      refine ⟨by show 6 ≤ sizeLine; decide, fun p1 np1 => ?_⟩
      have s1 : Same H0 (upd H0 p1 (.lst [.str "now", .str "cpu", .str "pid", .str "tid", .str "at", .str "name"])) := Same.upd np1
      have l1 : upd H0 p1 (.lst [.str "now", .str "cpu", .str "pid", .str "tid", .str "at", .str "name"]) p1 = some (.lst ((cws 0).map V.str)) := upd_same
      generalize upd H0 p1 (.lst [.str "now", .str "cpu", .str "pid", .str "tid", .str "at", .str "name"]) = H1 at s1 l1 ⊢
      replace h0 := s1 _ _ h0
      replace s0 := s0.trans s1
      refine ⟨by show 5 ≤ sizeLine; decide, fun p2 np2 => ?_⟩
      have s2 : Same H1 (upd H1 p2 (.lst [.str "+", .str "-", .str "*", .str "/", .str "mod"])) := Same.upd np2
      have l2 : upd H1 p2 (.lst [.str "+", .str "-", .str "*", .str "/", .str "mod"]) p2 = some (.lst ((cws 1).map V.str)) := upd_same
      generalize upd H1 p2 (.lst [.str "+", .str "-", .str "*", .str "/", .str "mod"]) = H2 at s2 l2 ⊢
      replace h0 := s2 _ _ h0
      replace l1 := s2 _ _ l1
      replace s0 := s0.trans s2
      refine ⟨by show 2 ≤ sizeLine; decide, fun p3 np3 => ?_⟩
      have s3 : Same H2 (upd H2 p3 (.lst [.str "trace", .str "say"])) := Same.upd np3
      have l3 : upd H2 p3 (.lst [.str "trace", .str "say"]) p3 = some (.lst ((cws 3).map V.str)) := upd_same
      generalize upd H2 p3 (.lst [.str "trace", .str "say"]) = H3 at s3 l3 ⊢
      replace h0 := s3 _ _ h0
      replace l1 := s3 _ _ l1
      replace l2 := s3 _ _ l2
      replace s0 := s0.trans s3
      refine ⟨h0, [(Sum.inr ("w" : Str), V.ref p1), (Sum.inr ("s" : Str), V.ref p2), (Sum.inr ("r" : Str), V.ref p3)], rfl, by show 3 ≤ 15; decide, ?_⟩
      have g0 : upd H3 dd (.dK (mergeK [] [(Sum.inr ("w" : Str), V.ref p1), (Sum.inr ("s" : Str), V.ref p2), (Sum.inr ("r" : Str), V.ref p3)])) dd = some (.dK [(Sum.inr ("w" : Str), V.ref p1), (Sum.inr ("s" : Str), V.ref p2), (Sum.inr ("r" : Str), V.ref p3)]) := by rw [upd_same]; rfl
      have gl1 : upd H3 dd (.dK (mergeK [] [(Sum.inr ("w" : Str), V.ref p1), (Sum.inr ("s" : Str), V.ref p2), (Sum.inr ("r" : Str), V.ref p3)])) p1 = some (.lst ((cws 0).map V.str)) := by rw [upd_ne (fun z => by rw [z, h0] at l1; cases l1)]; exact l1
      have gl2 : upd H3 dd (.dK (mergeK [] [(Sum.inr ("w" : Str), V.ref p1), (Sum.inr ("s" : Str), V.ref p2), (Sum.inr ("r" : Str), V.ref p3)])) p2 = some (.lst ((cws 1).map V.str)) := by rw [upd_ne (fun z => by rw [z, h0] at l2; cases l2)]; exact l2
      have gl3 : upd H3 dd (.dK (mergeK [] [(Sum.inr ("w" : Str), V.ref p1), (Sum.inr ("s" : Str), V.ref p2), (Sum.inr ("r" : Str), V.ref p3)])) p3 = some (.lst ((cws 3).map V.str)) := by rw [upd_ne (fun z => by rw [z, h0] at l3; cases l3)]; exact l3
      have t0 : Same H (upd H3 dd (.dK (mergeK [] [(Sum.inr ("w" : Str), V.ref p1), (Sum.inr ("s" : Str), V.ref p2), (Sum.inr ("r" : Str), V.ref p3)]))) := s0.updAt nd
      generalize upd H3 dd (.dK (mergeK [] [(Sum.inr ("w" : Str), V.ref p1), (Sum.inr ("s" : Str), V.ref p2), (Sum.inr ("r" : Str), V.ref p3)])) = H4 at g0 gl1 gl2 gl3 t0 ⊢
      refine ⟨by show 6 ≤ sizeLine; decide, fun p4 np4 => ?_⟩
      have s5 : Same H4 (upd H4 p4 (.lst [.str "==", .str "!=", .str "<", .str "<=", .str ">", .str ">="])) := Same.upd np4
      have l4 : upd H4 p4 (.lst [.str "==", .str "!=", .str "<", .str "<=", .str ">", .str ">="]) p4 = some (.lst ((cws 2).map V.str)) := upd_same
      generalize upd H4 p4 (.lst [.str "==", .str "!=", .str "<", .str "<=", .str ">", .str ">="]) = H5 at s5 l4 ⊢
      replace g0 := s5 _ _ g0
      replace gl1 := s5 _ _ gl1
      replace gl2 := s5 _ _ gl2
      replace gl3 := s5 _ _ gl3
      replace t0 := t0.trans s5
      refine ⟨_, rfl, dd, _, rfl, .inl ⟨_, .inr "c", g0, rfl, small (by show 4 ≤ 1000000; decide), rfl⟩, ?_⟩
      have f0 : upd H5 dd (.dK (putK [(Sum.inr ("w" : Str), V.ref p1), (Sum.inr ("s" : Str), V.ref p2), (Sum.inr ("r" : Str), V.ref p3)] (Sum.inr ("c" : Str)) (V.ref p4))) dd = some (.dK [(Sum.inr ("w" : Str), V.ref p1), (Sum.inr ("s" : Str), V.ref p2), (Sum.inr ("r" : Str), V.ref p3), (Sum.inr ("c" : Str), V.ref p4)]) := by rw [upd_same]; rfl
      have fl1 : upd H5 dd (.dK (putK [(Sum.inr ("w" : Str), V.ref p1), (Sum.inr ("s" : Str), V.ref p2), (Sum.inr ("r" : Str), V.ref p3)] (Sum.inr ("c" : Str)) (V.ref p4))) p1 = some (.lst ((cws 0).map V.str)) := by rw [upd_ne (fun z => by rw [z, g0] at gl1; cases gl1)]; exact gl1
      have fl2 : upd H5 dd (.dK (putK [(Sum.inr ("w" : Str), V.ref p1), (Sum.inr ("s" : Str), V.ref p2), (Sum.inr ("r" : Str), V.ref p3)] (Sum.inr ("c" : Str)) (V.ref p4))) p2 = some (.lst ((cws 1).map V.str)) := by rw [upd_ne (fun z => by rw [z, g0] at gl2; cases gl2)]; exact gl2
      have fl3 : upd H5 dd (.dK (putK [(Sum.inr ("w" : Str), V.ref p1), (Sum.inr ("s" : Str), V.ref p2), (Sum.inr ("r" : Str), V.ref p3)] (Sum.inr ("c" : Str)) (V.ref p4))) p3 = some (.lst ((cws 3).map V.str)) := by rw [upd_ne (fun z => by rw [z, g0] at gl3; cases gl3)]; exact gl3
      have fl4 : upd H5 dd (.dK (putK [(Sum.inr ("w" : Str), V.ref p1), (Sum.inr ("s" : Str), V.ref p2), (Sum.inr ("r" : Str), V.ref p3)] (Sum.inr ("c" : Str)) (V.ref p4))) p4 = some (.lst ((cws 2).map V.str)) := by rw [upd_ne (fun z => by rw [z, g0] at l4; cases l4)]; exact l4
      have t6 : Same H (upd H5 dd (.dK (putK [(Sum.inr ("w" : Str), V.ref p1), (Sum.inr ("s" : Str), V.ref p2), (Sum.inr ("r" : Str), V.ref p3)] (Sum.inr ("c" : Str)) (V.ref p4)))) := t0.updAt nd
      generalize upd H5 dd (.dK (putK [(Sum.inr ("w" : Str), V.ref p1), (Sum.inr ("s" : Str), V.ref p2), (Sum.inr ("r" : Str), V.ref p3)] (Sum.inr ("c" : Str)) (V.ref p4))) = H6 at f0 fl1 fl2 fl3 fl4 t6 ⊢
      refine ⟨_, rfl, _, _, _, _, _, rfl, .ty _, tyx_str, kit_ty kit_ss, ⟨true, rfl, ?_⟩⟩
      refine ⟨_, rfl, _, rfl, _, rfl, dd, .ref p1, rfl, .inl ⟨_, .inr (ls .word), .inl f0, rfl, rfl⟩, p1, _, rfl, .inl (SqL.of fl1), rfl, flat_strs' (cws 0), ?_⟩
      show Q (.bl (inV (.str (cw 0 j)) ((cws 0).map V.str))) H6
      rw [inv_cw (by rw [cws_len 0 (by decide)]; exact hj)]
      exact k _ t6
    case sign =>
      cases x <;> first | exact False.elim ht | skip
      rename_i c j
      obtain ⟨rfl, hj⟩ := (show c = 1 ∧ j < nC 1 from ht)
      obtain rfl := hd.str_inv
      refine ⟨_, rfl, rfl, _, rfl, ifF (lsF (by decide +kernel)) ?_⟩
      refine ⟨_, rfl, rfl, _, rfl, ifF (lsF (by decide +kernel)) ?_⟩
      refine ⟨_, rfl, rfl, _, rfl, ifF (lsF (by decide +kernel)) ?_⟩
      refine ⟨_, rfl, rfl, _, rfl, ifF (lsF (by decide +kernel)) ?_⟩
      refine ⟨_, rfl, rfl, _, rfl, ifF (lsF (by decide +kernel)) ?_⟩
      refine ⟨_, rfl, rfl, false, congrArg V.bl (lsF (by decide +kernel)), ?_⟩
      refine ⟨_, rfl, rfl, false, congrArg V.bl (lsF (by decide +kernel)), ?_⟩
      intro dd nd
      have s0 : Same H (upd H dd (.dK [])) := Same.upd nd
      have h0 : upd H dd (.dK []) dd = some (.dK []) := upd_same
      generalize upd H dd (.dK []) = H0 at s0 h0 ⊢
      refine ⟨by show 6 ≤ sizeLine; decide, fun p1 np1 => ?_⟩
      have s1 : Same H0 (upd H0 p1 (.lst [.str "now", .str "cpu", .str "pid", .str "tid", .str "at", .str "name"])) := Same.upd np1
      have l1 : upd H0 p1 (.lst [.str "now", .str "cpu", .str "pid", .str "tid", .str "at", .str "name"]) p1 = some (.lst ((cws 0).map V.str)) := upd_same
      generalize upd H0 p1 (.lst [.str "now", .str "cpu", .str "pid", .str "tid", .str "at", .str "name"]) = H1 at s1 l1 ⊢
      replace h0 := s1 _ _ h0
      replace s0 := s0.trans s1
      refine ⟨by show 5 ≤ sizeLine; decide, fun p2 np2 => ?_⟩
      have s2 : Same H1 (upd H1 p2 (.lst [.str "+", .str "-", .str "*", .str "/", .str "mod"])) := Same.upd np2
      have l2 : upd H1 p2 (.lst [.str "+", .str "-", .str "*", .str "/", .str "mod"]) p2 = some (.lst ((cws 1).map V.str)) := upd_same
      generalize upd H1 p2 (.lst [.str "+", .str "-", .str "*", .str "/", .str "mod"]) = H2 at s2 l2 ⊢
      replace h0 := s2 _ _ h0
      replace l1 := s2 _ _ l1
      replace s0 := s0.trans s2
      refine ⟨by show 2 ≤ sizeLine; decide, fun p3 np3 => ?_⟩
      have s3 : Same H2 (upd H2 p3 (.lst [.str "trace", .str "say"])) := Same.upd np3
      have l3 : upd H2 p3 (.lst [.str "trace", .str "say"]) p3 = some (.lst ((cws 3).map V.str)) := upd_same
      generalize upd H2 p3 (.lst [.str "trace", .str "say"]) = H3 at s3 l3 ⊢
      replace h0 := s3 _ _ h0
      replace l1 := s3 _ _ l1
      replace l2 := s3 _ _ l2
      replace s0 := s0.trans s3
      refine ⟨h0, [(Sum.inr ("w" : Str), V.ref p1), (Sum.inr ("s" : Str), V.ref p2), (Sum.inr ("r" : Str), V.ref p3)], rfl, by show 3 ≤ 15; decide, ?_⟩
      have g0 : upd H3 dd (.dK (mergeK [] [(Sum.inr ("w" : Str), V.ref p1), (Sum.inr ("s" : Str), V.ref p2), (Sum.inr ("r" : Str), V.ref p3)])) dd = some (.dK [(Sum.inr ("w" : Str), V.ref p1), (Sum.inr ("s" : Str), V.ref p2), (Sum.inr ("r" : Str), V.ref p3)]) := by rw [upd_same]; rfl
      have gl1 : upd H3 dd (.dK (mergeK [] [(Sum.inr ("w" : Str), V.ref p1), (Sum.inr ("s" : Str), V.ref p2), (Sum.inr ("r" : Str), V.ref p3)])) p1 = some (.lst ((cws 0).map V.str)) := by rw [upd_ne (fun z => by rw [z, h0] at l1; cases l1)]; exact l1
      have gl2 : upd H3 dd (.dK (mergeK [] [(Sum.inr ("w" : Str), V.ref p1), (Sum.inr ("s" : Str), V.ref p2), (Sum.inr ("r" : Str), V.ref p3)])) p2 = some (.lst ((cws 1).map V.str)) := by rw [upd_ne (fun z => by rw [z, h0] at l2; cases l2)]; exact l2
      have gl3 : upd H3 dd (.dK (mergeK [] [(Sum.inr ("w" : Str), V.ref p1), (Sum.inr ("s" : Str), V.ref p2), (Sum.inr ("r" : Str), V.ref p3)])) p3 = some (.lst ((cws 3).map V.str)) := by rw [upd_ne (fun z => by rw [z, h0] at l3; cases l3)]; exact l3
      have t0 : Same H (upd H3 dd (.dK (mergeK [] [(Sum.inr ("w" : Str), V.ref p1), (Sum.inr ("s" : Str), V.ref p2), (Sum.inr ("r" : Str), V.ref p3)]))) := s0.updAt nd
      generalize upd H3 dd (.dK (mergeK [] [(Sum.inr ("w" : Str), V.ref p1), (Sum.inr ("s" : Str), V.ref p2), (Sum.inr ("r" : Str), V.ref p3)])) = H4 at g0 gl1 gl2 gl3 t0 ⊢
      refine ⟨by show 6 ≤ sizeLine; decide, fun p4 np4 => ?_⟩
      have s5 : Same H4 (upd H4 p4 (.lst [.str "==", .str "!=", .str "<", .str "<=", .str ">", .str ">="])) := Same.upd np4
      have l4 : upd H4 p4 (.lst [.str "==", .str "!=", .str "<", .str "<=", .str ">", .str ">="]) p4 = some (.lst ((cws 2).map V.str)) := upd_same
      generalize upd H4 p4 (.lst [.str "==", .str "!=", .str "<", .str "<=", .str ">", .str ">="]) = H5 at s5 l4 ⊢
      replace g0 := s5 _ _ g0
      replace gl1 := s5 _ _ gl1
      replace gl2 := s5 _ _ gl2
      replace gl3 := s5 _ _ gl3
      replace t0 := t0.trans s5
      refine ⟨_, rfl, dd, _, rfl, .inl ⟨_, .inr "c", g0, rfl, small (by show 4 ≤ 1000000; decide), rfl⟩, ?_⟩
      have f0 : upd H5 dd (.dK (putK [(Sum.inr ("w" : Str), V.ref p1), (Sum.inr ("s" : Str), V.ref p2), (Sum.inr ("r" : Str), V.ref p3)] (Sum.inr ("c" : Str)) (V.ref p4))) dd = some (.dK [(Sum.inr ("w" : Str), V.ref p1), (Sum.inr ("s" : Str), V.ref p2), (Sum.inr ("r" : Str), V.ref p3), (Sum.inr ("c" : Str), V.ref p4)]) := by rw [upd_same]; rfl
      have fl1 : upd H5 dd (.dK (putK [(Sum.inr ("w" : Str), V.ref p1), (Sum.inr ("s" : Str), V.ref p2), (Sum.inr ("r" : Str), V.ref p3)] (Sum.inr ("c" : Str)) (V.ref p4))) p1 = some (.lst ((cws 0).map V.str)) := by rw [upd_ne (fun z => by rw [z, g0] at gl1; cases gl1)]; exact gl1
      have fl2 : upd H5 dd (.dK (putK [(Sum.inr ("w" : Str), V.ref p1), (Sum.inr ("s" : Str), V.ref p2), (Sum.inr ("r" : Str), V.ref p3)] (Sum.inr ("c" : Str)) (V.ref p4))) p2 = some (.lst ((cws 1).map V.str)) := by rw [upd_ne (fun z => by rw [z, g0] at gl2; cases gl2)]; exact gl2
      have fl3 : upd H5 dd (.dK (putK [(Sum.inr ("w" : Str), V.ref p1), (Sum.inr ("s" : Str), V.ref p2), (Sum.inr ("r" : Str), V.ref p3)] (Sum.inr ("c" : Str)) (V.ref p4))) p3 = some (.lst ((cws 3).map V.str)) := by rw [upd_ne (fun z => by rw [z, g0] at gl3; cases gl3)]; exact gl3
      have fl4 : upd H5 dd (.dK (putK [(Sum.inr ("w" : Str), V.ref p1), (Sum.inr ("s" : Str), V.ref p2), (Sum.inr ("r" : Str), V.ref p3)] (Sum.inr ("c" : Str)) (V.ref p4))) p4 = some (.lst ((cws 2).map V.str)) := by rw [upd_ne (fun z => by rw [z, g0] at l4; cases l4)]; exact l4
      have t6 : Same H (upd H5 dd (.dK (putK [(Sum.inr ("w" : Str), V.ref p1), (Sum.inr ("s" : Str), V.ref p2), (Sum.inr ("r" : Str), V.ref p3)] (Sum.inr ("c" : Str)) (V.ref p4)))) := t0.updAt nd
      generalize upd H5 dd (.dK (putK [(Sum.inr ("w" : Str), V.ref p1), (Sum.inr ("s" : Str), V.ref p2), (Sum.inr ("r" : Str), V.ref p3)] (Sum.inr ("c" : Str)) (V.ref p4))) = H6 at f0 fl1 fl2 fl3 fl4 t6 ⊢
      refine ⟨_, rfl, _, _, _, _, _, rfl, .ty _, tyx_str, kit_ty kit_ss, ⟨true, rfl, ?_⟩⟩
      refine ⟨_, rfl, _, rfl, _, rfl, dd, .ref p2, rfl, .inl ⟨_, .inr (ls .sign), .inl f0, rfl, rfl⟩, p2, _, rfl, .inl (SqL.of fl2), rfl, flat_strs' (cws 1), ?_⟩
      show Q (.bl (inV (.str (cw 1 j)) ((cws 1).map V.str))) H6
      rw [inv_cw (by rw [cws_len 1 (by decide)]; exact hj)]
      exact k _ t6
    case sort =>
      cases x <;> first | exact False.elim ht | skip
      rename_i c j
      obtain ⟨rfl, hj⟩ := (show c = 3 ∧ j < nC 3 from ht)
      obtain rfl := hd.str_inv
      refine ⟨_, rfl, rfl, _, rfl, ifF (lsF (by decide +kernel)) ?_⟩
      refine ⟨_, rfl, rfl, _, rfl, ifF (lsF (by decide +kernel)) ?_⟩
      refine ⟨_, rfl, rfl, _, rfl, ifF (lsF (by decide +kernel)) ?_⟩
      refine ⟨_, rfl, rfl, _, rfl, ifF (lsF (by decide +kernel)) ?_⟩
      refine ⟨_, rfl, rfl, _, rfl, ifF (lsF (by decide +kernel)) ?_⟩
      refine ⟨_, rfl, rfl, false, congrArg V.bl (lsF (by decide +kernel)), ?_⟩
      refine ⟨_, rfl, rfl, false, congrArg V.bl (lsF (by decide +kernel)), ?_⟩
      intro dd nd
      have s0 : Same H (upd H dd (.dK [])) := Same.upd nd
      have h0 : upd H dd (.dK []) dd = some (.dK []) := upd_same
      generalize upd H dd (.dK []) = H0 at s0 h0 ⊢
      refine ⟨by show 6 ≤ sizeLine; decide, fun p1 np1 => ?_⟩
      have s1 : Same H0 (upd H0 p1 (.lst [.str "now", .str "cpu", .str "pid", .str "tid", .str "at", .str "name"])) := Same.upd np1
      have l1 : upd H0 p1 (.lst [.str "now", .str "cpu", .str "pid", .str "tid", .str "at", .str "name"]) p1 = some (.lst ((cws 0).map V.str)) := upd_same
      generalize upd H0 p1 (.lst [.str "now", .str "cpu", .str "pid", .str "tid", .str "at", .str "name"]) = H1 at s1 l1 ⊢
      replace h0 := s1 _ _ h0
      replace s0 := s0.trans s1
      refine ⟨by show 5 ≤ sizeLine; decide, fun p2 np2 => ?_⟩
      have s2 : Same H1 (upd H1 p2 (.lst [.str "+", .str "-", .str "*", .str "/", .str "mod"])) := Same.upd np2
      have l2 : upd H1 p2 (.lst [.str "+", .str "-", .str "*", .str "/", .str "mod"]) p2 = some (.lst ((cws 1).map V.str)) := upd_same
      generalize upd H1 p2 (.lst [.str "+", .str "-", .str "*", .str "/", .str "mod"]) = H2 at s2 l2 ⊢
      replace h0 := s2 _ _ h0
      replace l1 := s2 _ _ l1
      replace s0 := s0.trans s2
      refine ⟨by show 2 ≤ sizeLine; decide, fun p3 np3 => ?_⟩
      have s3 : Same H2 (upd H2 p3 (.lst [.str "trace", .str "say"])) := Same.upd np3
      have l3 : upd H2 p3 (.lst [.str "trace", .str "say"]) p3 = some (.lst ((cws 3).map V.str)) := upd_same
      generalize upd H2 p3 (.lst [.str "trace", .str "say"]) = H3 at s3 l3 ⊢
      replace h0 := s3 _ _ h0
      replace l1 := s3 _ _ l1
      replace l2 := s3 _ _ l2
      replace s0 := s0.trans s3
      refine ⟨h0, [(Sum.inr ("w" : Str), V.ref p1), (Sum.inr ("s" : Str), V.ref p2), (Sum.inr ("r" : Str), V.ref p3)], rfl, by show 3 ≤ 15; decide, ?_⟩
      have g0 : upd H3 dd (.dK (mergeK [] [(Sum.inr ("w" : Str), V.ref p1), (Sum.inr ("s" : Str), V.ref p2), (Sum.inr ("r" : Str), V.ref p3)])) dd = some (.dK [(Sum.inr ("w" : Str), V.ref p1), (Sum.inr ("s" : Str), V.ref p2), (Sum.inr ("r" : Str), V.ref p3)]) := by rw [upd_same]; rfl
      have gl1 : upd H3 dd (.dK (mergeK [] [(Sum.inr ("w" : Str), V.ref p1), (Sum.inr ("s" : Str), V.ref p2), (Sum.inr ("r" : Str), V.ref p3)])) p1 = some (.lst ((cws 0).map V.str)) := by rw [upd_ne (fun z => by rw [z, h0] at l1; cases l1)]; exact l1
      have gl2 : upd H3 dd (.dK (mergeK [] [(Sum.inr ("w" : Str), V.ref p1), (Sum.inr ("s" : Str), V.ref p2), (Sum.inr ("r" : Str), V.ref p3)])) p2 = some (.lst ((cws 1).map V.str)) := by rw [upd_ne (fun z => by rw [z, h0] at l2; cases l2)]; exact l2
      have gl3 : upd H3 dd (.dK (mergeK [] [(Sum.inr ("w" : Str), V.ref p1), (Sum.inr ("s" : Str), V.ref p2), (Sum.inr ("r" : Str), V.ref p3)])) p3 = some (.lst ((cws 3).map V.str)) := by rw [upd_ne (fun z => by rw [z, h0] at l3; cases l3)]; exact l3
      have t0 : Same H (upd H3 dd (.dK (mergeK [] [(Sum.inr ("w" : Str), V.ref p1), (Sum.inr ("s" : Str), V.ref p2), (Sum.inr ("r" : Str), V.ref p3)]))) := s0.updAt nd
      generalize upd H3 dd (.dK (mergeK [] [(Sum.inr ("w" : Str), V.ref p1), (Sum.inr ("s" : Str), V.ref p2), (Sum.inr ("r" : Str), V.ref p3)])) = H4 at g0 gl1 gl2 gl3 t0 ⊢
      refine ⟨by show 6 ≤ sizeLine; decide, fun p4 np4 => ?_⟩
      have s5 : Same H4 (upd H4 p4 (.lst [.str "==", .str "!=", .str "<", .str "<=", .str ">", .str ">="])) := Same.upd np4
      have l4 : upd H4 p4 (.lst [.str "==", .str "!=", .str "<", .str "<=", .str ">", .str ">="]) p4 = some (.lst ((cws 2).map V.str)) := upd_same
      generalize upd H4 p4 (.lst [.str "==", .str "!=", .str "<", .str "<=", .str ">", .str ">="]) = H5 at s5 l4 ⊢
      replace g0 := s5 _ _ g0
      replace gl1 := s5 _ _ gl1
      replace gl2 := s5 _ _ gl2
      replace gl3 := s5 _ _ gl3
      replace t0 := t0.trans s5
      refine ⟨_, rfl, dd, _, rfl, .inl ⟨_, .inr "c", g0, rfl, small (by show 4 ≤ 1000000; decide), rfl⟩, ?_⟩
      have f0 : upd H5 dd (.dK (putK [(Sum.inr ("w" : Str), V.ref p1), (Sum.inr ("s" : Str), V.ref p2), (Sum.inr ("r" : Str), V.ref p3)] (Sum.inr ("c" : Str)) (V.ref p4))) dd = some (.dK [(Sum.inr ("w" : Str), V.ref p1), (Sum.inr ("s" : Str), V.ref p2), (Sum.inr ("r" : Str), V.ref p3), (Sum.inr ("c" : Str), V.ref p4)]) := by rw [upd_same]; rfl
      have fl1 : upd H5 dd (.dK (putK [(Sum.inr ("w" : Str), V.ref p1), (Sum.inr ("s" : Str), V.ref p2), (Sum.inr ("r" : Str), V.ref p3)] (Sum.inr ("c" : Str)) (V.ref p4))) p1 = some (.lst ((cws 0).map V.str)) := by rw [upd_ne (fun z => by rw [z, g0] at gl1; cases gl1)]; exact gl1
      have fl2 : upd H5 dd (.dK (putK [(Sum.inr ("w" : Str), V.ref p1), (Sum.inr ("s" : Str), V.ref p2), (Sum.inr ("r" : Str), V.ref p3)] (Sum.inr ("c" : Str)) (V.ref p4))) p2 = some (.lst ((cws 1).map V.str)) := by rw [upd_ne (fun z => by rw [z, g0] at gl2; cases gl2)]; exact gl2
      have fl3 : upd H5 dd (.dK (putK [(Sum.inr ("w" : Str), V.ref p1), (Sum.inr ("s" : Str), V.ref p2), (Sum.inr ("r" : Str), V.ref p3)] (Sum.inr ("c" : Str)) (V.ref p4))) p3 = some (.lst ((cws 3).map V.str)) := by rw [upd_ne (fun z => by rw [z, g0] at gl3; cases gl3)]; exact gl3
      have fl4 : upd H5 dd (.dK (putK [(Sum.inr ("w" : Str), V.ref p1), (Sum.inr ("s" : Str), V.ref p2), (Sum.inr ("r" : Str), V.ref p3)] (Sum.inr ("c" : Str)) (V.ref p4))) p4 = some (.lst ((cws 2).map V.str)) := by rw [upd_ne (fun z => by rw [z, g0] at l4; cases l4)]; exact l4
      have t6 : Same H (upd H5 dd (.dK (putK [(Sum.inr ("w" : Str), V.ref p1), (Sum.inr ("s" : Str), V.ref p2), (Sum.inr ("r" : Str), V.ref p3)] (Sum.inr ("c" : Str)) (V.ref p4)))) := t0.updAt nd
      generalize upd H5 dd (.dK (putK [(Sum.inr ("w" : Str), V.ref p1), (Sum.inr ("s" : Str), V.ref p2), (Sum.inr ("r" : Str), V.ref p3)] (Sum.inr ("c" : Str)) (V.ref p4))) = H6 at f0 fl1 fl2 fl3 fl4 t6 ⊢
      refine ⟨_, rfl, _, _, _, _, _, rfl, .ty _, tyx_str, kit_ty kit_ss, ⟨true, rfl, ?_⟩⟩
      refine ⟨_, rfl, _, rfl, _, rfl, dd, .ref p3, rfl, .inl ⟨_, .inr (ls .sort), .inl f0, rfl, rfl⟩, p3, _, rfl, .inl (SqL.of fl3), rfl, flat_strs' (cws 3), ?_⟩
      show Q (.bl (inV (.str (cw 3 j)) ((cws 3).map V.str))) H6
      rw [inv_cw (by rw [cws_len 3 (by decide)]; exact hj)]
      exact k _ t6
    case compare =>
      cases x <;> first | exact False.elim ht | skip
      rename_i c j
      obtain ⟨rfl, hj⟩ := (show c = 2 ∧ j < nC 2 from ht)
      obtain rfl := hd.str_inv
      refine ⟨_, rfl, rfl, _, rfl, ifF (lsF (by decide +kernel)) ?_⟩
      refine ⟨_, rfl, rfl, _, rfl, ifF (lsF (by decide +kernel)) ?_⟩
      refine ⟨_, rfl, rfl, _, rfl, ifF (lsF (by decide +kernel)) ?_⟩
      refine ⟨_, rfl, rfl, _, rfl, ifF (lsF (by decide +kernel)) ?_⟩
      refine ⟨_, rfl, rfl, _, rfl, ifF (lsF (by decide +kernel)) ?_⟩
      refine ⟨_, rfl, rfl, false, congrArg V.bl (lsF (by decide +kernel)), ?_⟩
      refine ⟨_, rfl, rfl, false, congrArg V.bl (lsF (by decide +kernel)), ?_⟩
      intro dd nd
      have s0 : Same H (upd H dd (.dK [])) := Same.upd nd
      have h0 : upd H dd (.dK []) dd = some (.dK []) := upd_same
      generalize upd H dd (.dK []) = H0 at s0 h0 ⊢
      refine ⟨by show 6 ≤ sizeLine; decide, fun p1 np1 => ?_⟩
      have s1 : Same H0 (upd H0 p1 (.lst [.str "now", .str "cpu", .str "pid", .str "tid", .str "at", .str "name"])) := Same.upd np1
      have l1 : upd H0 p1 (.lst [.str "now", .str "cpu", .str "pid", .str "tid", .str "at", .str "name"]) p1 = some (.lst ((cws 0).map V.str)) := upd_same
      generalize upd H0 p1 (.lst [.str "now", .str "cpu", .str "pid", .str "tid", .str "at", .str "name"]) = H1 at s1 l1 ⊢
      replace h0 := s1 _ _ h0
      replace s0 := s0.trans s1
      refine ⟨by show 5 ≤ sizeLine; decide, fun p2 np2 => ?_⟩
      have s2 : Same H1 (upd H1 p2 (.lst [.str "+", .str "-", .str "*", .str "/", .str "mod"])) := Same.upd np2
      have l2 : upd H1 p2 (.lst [.str "+", .str "-", .str "*", .str "/", .str "mod"]) p2 = some (.lst ((cws 1).map V.str)) := upd_same
      generalize upd H1 p2 (.lst [.str "+", .str "-", .str "*", .str "/", .str "mod"]) = H2 at s2 l2 ⊢
      replace h0 := s2 _ _ h0
      replace l1 := s2 _ _ l1
      replace s0 := s0.trans s2
      refine ⟨by show 2 ≤ sizeLine; decide, fun p3 np3 => ?_⟩
      have s3 : Same H2 (upd H2 p3 (.lst [.str "trace", .str "say"])) := Same.upd np3
      have l3 : upd H2 p3 (.lst [.str "trace", .str "say"]) p3 = some (.lst ((cws 3).map V.str)) := upd_same
      generalize upd H2 p3 (.lst [.str "trace", .str "say"]) = H3 at s3 l3 ⊢
      replace h0 := s3 _ _ h0
      replace l1 := s3 _ _ l1
      replace l2 := s3 _ _ l2
      replace s0 := s0.trans s3
      refine ⟨h0, [(Sum.inr ("w" : Str), V.ref p1), (Sum.inr ("s" : Str), V.ref p2), (Sum.inr ("r" : Str), V.ref p3)], rfl, by show 3 ≤ 15; decide, ?_⟩
      have g0 : upd H3 dd (.dK (mergeK [] [(Sum.inr ("w" : Str), V.ref p1), (Sum.inr ("s" : Str), V.ref p2), (Sum.inr ("r" : Str), V.ref p3)])) dd = some (.dK [(Sum.inr ("w" : Str), V.ref p1), (Sum.inr ("s" : Str), V.ref p2), (Sum.inr ("r" : Str), V.ref p3)]) := by rw [upd_same]; rfl
      have gl1 : upd H3 dd (.dK (mergeK [] [(Sum.inr ("w" : Str), V.ref p1), (Sum.inr ("s" : Str), V.ref p2), (Sum.inr ("r" : Str), V.ref p3)])) p1 = some (.lst ((cws 0).map V.str)) := by rw [upd_ne (fun z => by rw [z, h0] at l1; cases l1)]; exact l1
      have gl2 : upd H3 dd (.dK (mergeK [] [(Sum.inr ("w" : Str), V.ref p1), (Sum.inr ("s" : Str), V.ref p2), (Sum.inr ("r" : Str), V.ref p3)])) p2 = some (.lst ((cws 1).map V.str)) := by rw [upd_ne (fun z => by rw [z, h0] at l2; cases l2)]; exact l2
      have gl3 : upd H3 dd (.dK (mergeK [] [(Sum.inr ("w" : Str), V.ref p1), (Sum.inr ("s" : Str), V.ref p2), (Sum.inr ("r" : Str), V.ref p3)])) p3 = some (.lst ((cws 3).map V.str)) := by rw [upd_ne (fun z => by rw [z, h0] at l3; cases l3)]; exact l3
      have t0 : Same H (upd H3 dd (.dK (mergeK [] [(Sum.inr ("w" : Str), V.ref p1), (Sum.inr ("s" : Str), V.ref p2), (Sum.inr ("r" : Str), V.ref p3)]))) := s0.updAt nd
      generalize upd H3 dd (.dK (mergeK [] [(Sum.inr ("w" : Str), V.ref p1), (Sum.inr ("s" : Str), V.ref p2), (Sum.inr ("r" : Str), V.ref p3)])) = H4 at g0 gl1 gl2 gl3 t0 ⊢
      refine ⟨by show 6 ≤ sizeLine; decide, fun p4 np4 => ?_⟩
      have s5 : Same H4 (upd H4 p4 (.lst [.str "==", .str "!=", .str "<", .str "<=", .str ">", .str ">="])) := Same.upd np4
      have l4 : upd H4 p4 (.lst [.str "==", .str "!=", .str "<", .str "<=", .str ">", .str ">="]) p4 = some (.lst ((cws 2).map V.str)) := upd_same
      generalize upd H4 p4 (.lst [.str "==", .str "!=", .str "<", .str "<=", .str ">", .str ">="]) = H5 at s5 l4 ⊢
      replace g0 := s5 _ _ g0
      replace gl1 := s5 _ _ gl1
      replace gl2 := s5 _ _ gl2
      replace gl3 := s5 _ _ gl3
      replace t0 := t0.trans s5
      refine ⟨_, rfl, dd, _, rfl, .inl ⟨_, .inr "c", g0, rfl, small (by show 4 ≤ 1000000; decide), rfl⟩, ?_⟩
      have f0 : upd H5 dd (.dK (putK [(Sum.inr ("w" : Str), V.ref p1), (Sum.inr ("s" : Str), V.ref p2), (Sum.inr ("r" : Str), V.ref p3)] (Sum.inr ("c" : Str)) (V.ref p4))) dd = some (.dK [(Sum.inr ("w" : Str), V.ref p1), (Sum.inr ("s" : Str), V.ref p2), (Sum.inr ("r" : Str), V.ref p3), (Sum.inr ("c" : Str), V.ref p4)]) := by rw [upd_same]; rfl
      have fl1 : upd H5 dd (.dK (putK [(Sum.inr ("w" : Str), V.ref p1), (Sum.inr ("s" : Str), V.ref p2), (Sum.inr ("r" : Str), V.ref p3)] (Sum.inr ("c" : Str)) (V.ref p4))) p1 = some (.lst ((cws 0).map V.str)) := by rw [upd_ne (fun z => by rw [z, g0] at gl1; cases gl1)]; exact gl1
      have fl2 : upd H5 dd (.dK (putK [(Sum.inr ("w" : Str), V.ref p1), (Sum.inr ("s" : Str), V.ref p2), (Sum.inr ("r" : Str), V.ref p3)] (Sum.inr ("c" : Str)) (V.ref p4))) p2 = some (.lst ((cws 1).map V.str)) := by rw [upd_ne (fun z => by rw [z, g0] at gl2; cases gl2)]; exact gl2
      have fl3 : upd H5 dd (.dK (putK [(Sum.inr ("w" : Str), V.ref p1), (Sum.inr ("s" : Str), V.ref p2), (Sum.inr ("r" : Str), V.ref p3)] (Sum.inr ("c" : Str)) (V.ref p4))) p3 = some (.lst ((cws 3).map V.str)) := by rw [upd_ne (fun z => by rw [z, g0] at gl3; cases gl3)]; exact gl3
      have fl4 : upd H5 dd (.dK (putK [(Sum.inr ("w" : Str), V.ref p1), (Sum.inr ("s" : Str), V.ref p2), (Sum.inr ("r" : Str), V.ref p3)] (Sum.inr ("c" : Str)) (V.ref p4))) p4 = some (.lst ((cws 2).map V.str)) := by rw [upd_ne (fun z => by rw [z, g0] at l4; cases l4)]; exact l4
      have t6 : Same H (upd H5 dd (.dK (putK [(Sum.inr ("w" : Str), V.ref p1), (Sum.inr ("s" : Str), V.ref p2), (Sum.inr ("r" : Str), V.ref p3)] (Sum.inr ("c" : Str)) (V.ref p4)))) := t0.updAt nd
      generalize upd H5 dd (.dK (putK [(Sum.inr ("w" : Str), V.ref p1), (Sum.inr ("s" : Str), V.ref p2), (Sum.inr ("r" : Str), V.ref p3)] (Sum.inr ("c" : Str)) (V.ref p4))) = H6 at f0 fl1 fl2 fl3 fl4 t6 ⊢
      refine ⟨_, rfl, _, _, _, _, _, rfl, .ty _, tyx_str, kit_ty kit_ss, ⟨true, rfl, ?_⟩⟩
      refine ⟨_, rfl, _, rfl, _, rfl, dd, .ref p4, rfl, .inl ⟨_, .inr (ls .compare), .inl f0, rfl, rfl⟩, p4, _, rfl, .inl (SqL.of fl4), rfl, flat_strs' (cws 2), ?_⟩
      show Q (.bl (inV (.str (cw 2 j)) ((cws 2).map V.str))) H6
      rw [inv_cw (by rw [cws_len 2 (by decide)]; exact hj)]
      exact k _ t6
end
end L2.KR

namespace L2.KR
open PySem PySem.Spec PyProof.Rows K53
theorem lsr_len (j : Nat) : (lsr j).length = (srt j).length := by
  unfold lsr
  rw [SX.S_len, List.length_map]
theorem lsr_at {j q : Nat} {s : Srt} (h : (srt j)[q]? = some s) : (lsr j).cps.toList[q]? = some (lc s) := by
  unfold lsr
  show ((srt j).map lc)[q]? = _
  rw [List.getElem?_map, h]
  rfl
theorem okPs_get : ∀ {ss : List Srt} {ps : List Prt}, okPs ss ps = true → ∀ {i : Nat} {s : Srt} {p : Prt}, ss[i]? = some s → ps[i]? = some p → okP s p = true
  | [], _, _, i, s, p, h, _ => by simp at h
  | _ :: _, [], _, i, s, p, _, h => by simp at h
  | s0 :: ss, p0 :: ps, h, i, s, p, h1, h2 => by
    have h' : (okP s0 p0 && okPs ss ps) = true := h
    rw [Bool.and_eq_true] at h'
    cases i with
    | zero =>
      simp at h1 h2
      subst h1 h2
      exact h'.1
    | succ i => exact okPs_get h'.2 (by simpa using h1) (by simpa using h2)
def spQR (K : PySem.W.Frag) : Sp := fun vs H Q _ => ∃ (v : V) (row : K53.Row), vs = [v] ∧ TypR row ∧ okR row = true ∧ CntR bigM row ∧ Dp K H v (datR row) ∧ ∀ H', Same H H' → Q (.bl true) H'
abbrev sQR : Stmt := top 49
section
variable {P : Program} {w : World} {K : PySem.W.Frag} {mg : Str → Option Value} {base : Heap}
theorem scQR : FnScope ["_law_thing", "_law_sorts_here", "_law_k"] ["_law_thing"] (defScope sQR) := ⟨rfl, rfl, rfl, by decide +kernel, rfl, by decide +kernel, by decide +kernel⟩
theorem ok_qr {f : Addr} {fd : FuncData} (F : Fun K "_law_is_row" "_law_is_row" sQR f fd) (T : Txt w K mg) (cQS : C8.Cal P w K mg base 1 "_law_sorts" spQS []) (cQP : C8.Cal P w K mg base 2 "_law_is_part" (spQP K) []) : FnOk P w K mg base CX0 3 f fd ["_law_thing"] (spQR K) := by
  refine F.ok scQR (fun vs H Q E h => ?_) (fun cdv A outer s0 H vs Q E hr h => ?_)
  · obtain ⟨v, x, rfl, _⟩ := h
    rfl
  · obtain ⟨v, row, rfl, ht, ho, hc, hd, k⟩ := h
    have hr1 : Room 1 _ := hr.mono (by decide)
    refine ⟨_, pss_cons (ps_if (PW.pt (pw_or (pt_not (pt_val (pe_callB call_isi (by rfl) T.isi boot_isinstance (pa_cons (pv 0) (pa_cons (pe_bltn (v := .ty "tuple") (by rfl) T.tup boot_tuple rfl) pa_nil))))) (pw_or (pt_cmpR op_eq (pe_callB call_len_seq (by rfl) T.len PySem.boot_len (pa_cons (pv 0) pa_nil)) pe_int (nomark _)) (pw_or1 (pt_not (pt_val (pe_callB call_isi (by rfl) T.isi boot_isinstance (pa_cons (pe_ix ix_tup (pv 0) pe_int (fun _ _ => rfl)) (pa_cons (pe_bltn (v := .ty "str") (by rfl) T.str boot_str rfl) pa_nil))))))))) (pss_one (ps_ret pe_bl)) pss_nil)
      (pss_cons (ps_set (i := 1) scQR.nd rfl (Or.inl rfl) (pe_dget1 (units1 hr) (pe_c0 cQS hr1 (by decide) (by rfl)) (pe_ix ix_tup (pv 0) pe_int (fun _ _ => rfl)) ⟨rfl, rfl, rfl, rfl⟩))
      (pss_cons (ps_if (PW.pt (pw_or (pt_cmpR op_isN (pv 1) pe_non (nomark _)) (pw_or1 (pt_cmpR op_ne (pe_op op_add (pe_callB call_len_str (by rfl) T.len PySem.boot_len (pa_cons (pv 1) pa_nil)) pe_int) (pe_callB call_len_seq (by rfl) T.len PySem.boot_len (pa_cons (pv 0) pa_nil)) (nomark _))))) (pss_one (ps_ret pe_bl)) pss_nil)
      (pss_cons (ps_for PassesOwn.never rfl (pi_range1 (by rfl) T.range (pa_cons (pe_callB call_len_str (by rfl) T.len PySem.boot_len (pa_cons (pv 1) pa_nil)) pa_nil)) (pg_name (i := 2) scQR.nd rfl (Or.inl rfl))
        (pss_one (ps_if (pt_not (pt_val (C8.pe_c cQP hr (by decide) (by rfl) (pa_cons (pe_ix ix_str (pv 1) (pv 2) (fun _ _ => rfl)) (pa_cons (pe_ix ix_tup (pv 0) (pe_op op_add (pv 2) pe_int) (fun _ _ => rfl)) pa_nil))))) (pss_one (ps_ret pe_bl)) pss_nil)))
      (pss_one (ps_ret pe_bl))))), ?_⟩
    obtain ⟨hj, hlen, htp⟩ := id ht
    obtain ⟨j, ps⟩ := row
    obtain ⟨a, xs, rfl, hq, hda⟩ := id hd.tup_inv
    cases hda with
    | cons hw hpd =>
      rename_i wv pvs
      obtain rfl := hw.str_inv
      have hps : ps.length = (srt j).length := hlen
      have h4 := srt_le j
      have hpv : pvs.length = ps.length := by
        have := hpd.length
        rw [List.length_map] at this
        exact this
      have ll := lsr_len j
      refine ⟨_, rfl, _, _, _, _, _, rfl, .ty _, tyx_sqT hq, kit_ty kit_tt, ⟨true, rfl, ?_⟩⟩
      refine ⟨_, rfl, a, _, rfl, .inr hq, rfl, false, ?_, ?_⟩
      · show V.bl (decide (V.int (((pvs.length + 1 : Nat)) : Int) = V.int 0)) = V.bl false
        rw [decide_eq_false (fun e => by have := V.int.inj e; omega)]
      refine ⟨_, rfl, a, _, 0, _, rfl, rfl, hq, at_of (j := 0) rfl rfl, _, _, _, _, _, rfl, .ty _, tyx_str, kit_ty kit_ss, ⟨true, rfl, ?_⟩⟩
      refine ⟨rfl, fun H1 p s1 np h1 => ⟨p, rfl, .inl ⟨_, .inl h1⟩, ?_⟩⟩
      refine ⟨_, rfl, a, _, 0, _, rfl, rfl, s1.seqT hq, at_of (j := 0) rfl rfl, some (.str (lsr j)), .inl ⟨_, .inr (wd j), .inl h1, rfl, lk_get j hj⟩, ?_⟩
      refine ⟨_, rfl, rfl, false, rfl, ?_⟩
      refine ⟨_, rfl, _, rfl, by rw [ll]; exact small (by omega), _, _, rfl, rfl, _, rfl, a, _, rfl, .inr (s1.seqT hq), rfl, false, ?_, ?_⟩
      · show V.bl (!decide (V.int (((lsr j).length : Nat) + (1 : Int)) = V.int (((pvs.length + 1 : Nat)) : Int))) = V.bl false
        rw [ll, hpv, hps, decide_eq_true (by congr 1)]
        rfl
      refine ⟨_, rfl, _, rfl, by rw [ll]; exact small (by omega), (((srt j).length : Nat) : Int), by rw [ll], by omega, by omega, ?_⟩
      refine for_range (n := (srt j).length) (fun q σ H' => ∃ v2 : Option V, σ = [some (.ref a), some (.str (lsr j)), v2] ∧ Same H H') ⟨none, rfl, s1⟩ ?_ ?_
      · rintro q σ H2 hq4 ⟨v2, rfl, s2⟩
        have hqlt : q < ps.length := by omega
        have hpq : ps[q]? = some ps[q] := by simp [hqlt]
        obtain ⟨sv, hsv, hsd⟩ := hpd.getD (i := q) (d := datP ps[q]) (by rw [List.getElem?_map, hpq]; rfl)
        have hsrt : (srt j)[q]? = some ((srt j).getD q .d) := by
          rw [List.getD_eq_getElem?_getD, List.getElem?_eq_getElem hq4]
          rfl
        have e0 : (0 : Int) + (q : Int) = (q : Int) := by omega
        refine ⟨_, rfl, _, rfl, _, _, lc ((srt j).getD q .d), rfl, rfl, by rw [ll]; exact small (by omega), atN_of (j := q) e0 (lsr_at hsrt), _, rfl, _, rfl, _, _, rfl, rfl, a, _, _, sv, rfl, rfl, s2.seqT hq, at_of (j := q + 1) (by omega) (by simpa using hsv), _, sv, ps[q], rfl, htp q _ hpq, okPs_get ho hsrt hpq, hc _ (List.mem_of_getElem? hpq), hsd.mono s2, fun H3 s3 => ?_⟩
        exact ⟨true, rfl, _, rfl, s2.trans s3⟩
      · rintro σ H2 ⟨v2, rfl, s2⟩
        exact k _ s2
end
/-! ### _law_is_code -/
def spQK (K : PySem.W.Frag) : Sp := fun vs H Q _ => ∃ (v : V) (c : K53.Code), vs = [v] ∧ TypC c ∧ okC c = true ∧ (∀ r ∈ c.2, CntR bigM r) ∧ Dp K H v (datC c) ∧ ∀ H', Same H H' → Q (.bl true) H'
abbrev sQK : Stmt := top 50
section
variable {P : Program} {w : World} {K : PySem.W.Frag} {mg : Str → Option Value} {base : Heap}
theorem scQK : FnScope ["_law_thing", "_law_kind", "_law_row_here"] ["_law_thing"] (defScope sQK) := ⟨rfl, rfl, rfl, by decide +kernel, rfl, by decide +kernel, by decide +kernel⟩
theorem ok_qk {f : Addr} {fd : FuncData} (F : Fun K "_law_is_code" "_law_is_code" sQK f fd) (T : Txt w K mg) (cQR : C8.Cal P w K mg base 3 "_law_is_row" (spQR K) []) : FnOk P w K mg base CX0 4 f fd ["_law_thing"] (spQK K) := by
  refine F.ok scQK (fun vs H Q E h => ?_) (fun cdv A outer s0 H vs Q E hr h => ?_)
  · obtain ⟨v, x, rfl, _⟩ := h
    rfl
  · obtain ⟨v, c, rfl, ht, ho, hc, hd, k⟩ := h
    refine ⟨_, pss_cons (ps_if (PW.pt (pw_or (pt_not (pt_val (pe_callB call_isi (by rfl) T.isi boot_isinstance (pa_cons (pv 0) (pa_cons (pe_bltn (v := .ty "tuple") (by rfl) T.tup boot_tuple rfl) pa_nil))))) (pw_or (pt_cmpR op_ne (pe_callB call_len_seq (by rfl) T.len PySem.boot_len (pa_cons (pv 0) pa_nil)) pe_int (nomark _)) (pw_or (pt_not (pt_val (pe_callB call_isi (by rfl) T.isi boot_isinstance (pa_cons (pe_ix ix_tup (pv 0) pe_int (fun _ _ => rfl)) (pa_cons (pe_bltn (v := .ty "tuple") (by rfl) T.tup boot_tuple rfl) pa_nil))))) (pw_or1 (pt_not (pt_val (pe_callB call_isi (by rfl) T.isi boot_isinstance (pa_cons (pe_ix ix_tup (pv 0) pe_int (fun _ _ => rfl)) (pa_cons (pe_bltn (v := .ty "tuple") (by rfl) T.tup boot_tuple rfl) pa_nil)))))))))) (pss_one (ps_ret pe_bl)) pss_nil)
      (pss_cons (ps_for PassesOwn.never rfl (pi_tup (pe_ix ix_tup (pv 0) pe_int (fun _ _ => rfl))) (pg_name (i := 1) scQK.nd rfl (Or.inl rfl))
        (pss_one (ps_if (PW.pt (pw_or (pt_not (pt_val (pe_callB call_isi (by rfl) T.isi boot_isinstance (pa_cons (pv 1) (pa_cons (pe_bltn (v := .ty "str") (by rfl) T.str boot_str rfl) pa_nil))))) (pw_or1 (pt_cmpR op_notIn_seq (pv 1) (pe_tup (pa_cons pe_str (pa_cons pe_str pa_nil))) (by rfl))))) (pss_one (ps_ret pe_bl)) pss_nil)))
      (pss_one (ps_ret (pe_cmpR (op_eqD (units64 hr))
          (pe_lc (own := [("_law_row_here", 2)]) (g := gName 2) rfl scQK.nd (pi_tup (pe_ix ix_tup (pv 0) pe_int (fun _ _ => rfl))) (blkOk_by (N := ["_law_thing", "_law_kind", "_law_row_here"]) (sc := defScope sQK) (by decide +kernel))
            (fun _ _ _ _ _ => pg_name (i := 2) scQK.nd rfl (Or.inl rfl)) (fun _ _ _ _ _ => pts_one (pt_not (pt_val (C8.pe_c cQR hr (by decide) (by rfl) (pa_cons (pv 2) pa_nil))))) (fun _ _ _ _ _ => pv 2)) (pe_lst pa_nil) (nomark _))))), ?_⟩
    obtain ⟨a, xs, rfl, hq, hda⟩ := id hd.tup_inv
    cases hda with
    | cons hk r1 =>
      cases r1 with
      | cons hrs r2 =>
        cases r2
        obtain ⟨ak, ks, rfl, hqk, hdk⟩ := hk.tup_inv
        obtain rfl := hdk.strs_inv
        obtain ⟨ar, rs, rfl, hqr, hdr⟩ := hrs.tup_inv
        refine ⟨_, rfl, _, _, _, _, _, rfl, .ty _, tyx_sqT hq, kit_ty kit_tt, ⟨true, rfl, ?_⟩⟩
        refine ⟨_, rfl, a, _, rfl, .inr hq, rfl, false, rfl, ?_⟩
        refine ⟨_, rfl, a, _, 0, _, rfl, rfl, hq, rfl, _, _, _, _, _, rfl, .ty _, tyx_sqT hqk, kit_ty kit_tt, ⟨true, rfl, ?_⟩⟩
        refine ⟨_, rfl, a, _, 1, _, rfl, rfl, hq, rfl, _, _, _, _, _, rfl, .ty _, tyx_sqT hqr, kit_ty kit_tt, ⟨true, rfl, ?_⟩⟩
        refine ⟨_, rfl, a, _, 0, _, rfl, rfl, hq, rfl, ak, rfl, ⟨_, hqk⟩, for_tup (xs := c.1.map fun k => V.str (kn k)) (fun i σ H' => ∃ v1 : Option V, σ = [some (.ref a), v1, none] ∧ Same H H') ⟨none, rfl, fun _ _ e => e⟩ (fun i σ H' _ ⟨_, _, s⟩ => s.seqT hqk) ?_ ?_⟩
        · rintro i y σ H1 hi ⟨v1, rfl, s1⟩
          rw [List.getElem?_map] at hi
          obtain ⟨kk, hkk, rfl⟩ : ∃ kk, c.1[i]? = some kk ∧ V.str (kn kk) = y := by
            cases e : c.1[i]? with
            | none => rw [e] at hi; cases hi
            | some kk => rw [e] at hi; exact ⟨kk, rfl, Option.some.inj hi⟩
          have hk2 : kk < 2 := ht.1 kk (List.mem_of_getElem? hkk)
          refine ⟨_, rfl, _, _, _, _, _, rfl, .ty _, tyx_str, kit_ty kit_ss, ⟨true, rfl, ?_⟩⟩
          refine ⟨_, rfl, by show 2 ≤ sizeLine; decide, fun p np => ?_⟩
          have hin : inV (.str (kn kk)) [.str "int", .str "str"] = true := inv_mem (l := kns) (List.mem_of_getElem? (kn_here kk hk2))
          refine ⟨p, _, rfl, .inr (SqT.of upd_same), rfl, rfl, false, ?_, ?_⟩
          · rw [if_pos rfl, hin]
            rfl
          · exact ⟨_, rfl, s1.trans (Same.upd np)⟩
        · rintro σ H1 ⟨v1, rfl, s1⟩
          refine ⟨_, rfl, a, _, 1, _, rfl, rfl, s1.seqT hq, rfl, ar, rfl, ⟨_, s1.seqT hqr⟩, fun D nD => ?_⟩
          refine lc_it walk_tup (fun j H' => Same H H' ∧ H' D = some (.lst [])) ⟨s1.trans (Same.upd nD), upd_same⟩ (fun j H' _ hp => hp.1.seqT hqr) ?_ ?_
          · rintro i y H2 H2' hi ⟨s2, hD⟩ ⟨rfl, hy⟩
            obtain ⟨d, hd1, hd2⟩ := hdr.get hy
            rw [List.getElem?_map] at hd1
            obtain ⟨row, hrow, rfl⟩ : ∃ row, c.2[i]? = some row ∧ datR row = d := by
              cases e : c.2[i]? with
              | none => rw [e] at hd1; cases hd1
              | some row => rw [e] at hd1; exact ⟨row, rfl, Option.some.inj hd1⟩
            have hm := List.mem_of_getElem? hrow
            refine ⟨rfl, ?_⟩
            refine ⟨_, rfl, y, row, rfl, ht.2 row hm, List.all_eq_true.mp ho row hm, hc row hm, hd2.mono s2, fun H3 s3 => ?_⟩
            exact ⟨true, rfl, s2.trans s3, s3 _ _ hD⟩
          · rintro H2 ⟨s2, hD⟩
            refine ⟨Nat.zero_le _, fun q nq => ?_⟩
            have s3 : Same H2 (upd H2 q (.lst [])) := Same.upd nq
            exact ⟨.list [], .list [], .lst (SqL.of (s3 _ _ hD)) .nil, .lst (SqL.of upd_same) .nil, rfl, rfl, k _ (s2.trans s3)⟩
end
end L2.KR

namespace L2.KR
open PySem PySem.Spec PyProof.Rows K53
/-! ### _law_count -/
def spLN : Sp := fun vs H Q _ => ∃ n : Nat, vs = [.int ((n : Nat) : Int)] ∧ n ≤ bigM ∧ Gives (cb n) H Q
theorem bigM_lt : bigM < 128 ^ 61 := by decide +kernel
theorem cb_small61 {n : Nat} (h : n ≤ bigM) : (cb n).length ≤ 61 := by
  have key : ∀ (t n : Nat), n < 128 ^ (t + 1) → (cb n).length ≤ t + 1 := by
    intro t
    induction t with
    | zero =>
      intro n h
      rw [cb_small (by simpa using Nat.le_of_lt_succ h)]
      exact Nat.le_refl _
    | succ t ih =>
      intro n h
      by_cases h1 : n ≤ 127
      · rw [cb_small h1]
        simp
      · rw [cb_big h1, List.length_cons]
        have := ih (n / 128) (Nat.div_lt_of_lt_mul (by rw [Nat.pow_succ, Nat.mul_comm] at h; exact h))
        omega
  exact key 60 n (Nat.lt_of_le_of_lt h bigM_lt)
abbrev sLN : Stmt := top 51
section
variable {P : Program} {w : World} {K : PySem.W.Frag} {mg : Str → Option Value} {base : Heap}
theorem scLN : FnScope ["_law_n", "_law_found", "_law_turn"] ["_law_n"] (defScope sLN) := ⟨rfl, rfl, rfl, by decide +kernel, rfl, by decide +kernel, by decide +kernel⟩
theorem ok_ln {f : Addr} {fd : FuncData} (F : Fun K "_law_count" "_law_count" sLN f fd) (T : Txt w K mg) : FnOk P w K mg base CX0 1 f fd ["_law_n"] spLN := by
  refine F.ok scLN (fun vs H Q E h => ?_) (fun cdv A outer s0 H vs Q E hr h => ?_)
  · obtain ⟨n, rfl, _⟩ := h
    rfl
  · obtain ⟨n, rfl, hn, k⟩ := h
    refine ⟨_, pss_cons (ps_set (i := 1) scLN.nd rfl (Or.inl rfl) (pe_lst pa_nil))
      (pss_cons (ps_for PassesOwn.never rfl (pi_range1 (by rfl) T.range (pa_cons pe_int pa_nil)) (pg_name (i := 2) scLN.nd rfl (Or.inl rfl))
        (pss_one (ps_if (pt_cmpR op_gt (pv 0) pe_int (nomark _))
          (pss_cons (ps_expr (pe_bm PySem.F.plainAttrs_list PySem.F.slot_list_append PySem.F.type_list_append mt_append (pv 1) (pa_cons (pe_op op_add pe_int (pe_op op_mod (pv 0) pe_int)) pa_nil)))
          (pss_one (ps_set (i := 0) scLN.nd rfl (Or.inl rfl) (pe_op op_fdiv (pv 0) pe_int)))) pss_nil)))
      (pss_one (ps_ret (pe_op op_cat (pv 1) (pe_lst (pa_cons (pv 0) pa_nil)))))), ?_⟩
    have hl61 := cb_small61 hn
    refine ⟨Nat.zero_le _, fun l nl => ?_⟩
    refine ⟨60, rfl, by decide, by decide, for_range (n := 60) (fun t σ H' => ∃ (acc : List Nat) (j : Nat) (v2 : Option V), σ = [some (.int ((j : Nat) : Int)), some (.ref l), v2] ∧ Same H H' ∧ H' l = some (.lst (nats acc)) ∧ acc ++ cb j = cb n ∧ j < 128 ^ (61 - t))
      ⟨[], n, none, rfl, Same.upd nl, upd_same, rfl, Nat.lt_of_le_of_lt hn bigM_lt⟩ ?_ ?_⟩
    · rintro t σ H1 ht ⟨acc, j, v2, rfl, s1, h1, e1, hj⟩
      have la : acc.length ≤ 61 := by
        have := congrArg List.length e1
        rw [List.length_append] at this
        omega
      refine ⟨_, rfl, _, _, rfl, rfl, _, rfl, ?_⟩
      by_cases h7 : j ≤ 127
      · refine ifF (decide_eq_false (by omega)) ?_
        refine ⟨acc, j, _, rfl, s1, h1, e1, ?_⟩
        have h2 : 61 - (t + 1) = (59 - t) + 1 := by omega
        have h3 : 1 ≤ 128 ^ (59 - t) := Nat.pow_pos (by decide)
        rw [h2, Nat.pow_succ]
        omega
      · refine ifT (decide_eq_true (by omega)) ?_
        refine ⟨_, rfl, .inl ⟨rfl, _, SqL.of h1⟩, _, rfl, _, _, rfl, rfl, (by show (0 : Int) < 128; decide), _, _, rfl, rfl, l, _, _, rfl, rfl, h1, smallLt (by rw [nats_length]; omega), ?_⟩
        refine ⟨_, rfl, _, _, rfl, rfl, ⟨by decide, by decide⟩, ?_⟩
        rw [cb_big h7] at e1
        refine ⟨acc ++ [128 + j % 128], j / 128, some (.int (0 + (t : Int))), ?_, s1.updAt nl, ?_, by rw [← e1]; simp, ?_⟩
        · rfl
        · rw [upd_same, nats_app]
          rfl
        · have h2 : 61 - t = (61 - (t + 1)) + 1 := by omega
          rw [h2, Nat.pow_succ] at hj
          exact Nat.div_lt_of_lt_mul (by rw [Nat.mul_comm]; exact hj)
    · rintro σ H1 ⟨acc, j, v2, rfl, s1, h1, e1, hj⟩
      have hj7 : j ≤ 127 := by
        have : (128 : Nat) ^ (61 - 60) = 128 := by decide
        omega
      have la : acc.length ≤ 61 := by
        have := congrArg List.length e1
        rw [List.length_append] at this
        omega
      refine ⟨_, rfl, _, rfl, by show 1 ≤ sizeLine; decide, fun q hq => ?_⟩
      refine ⟨l, q, nats acc, [.int (j : Int)], rfl, rfl, by rw [upd_ne (ne_of_none h1 hq)]; exact h1, upd_same, small (by rw [nats_length]; simp; omega), fun p hp => ?_⟩
      have hq0 : H q = none := s1.free hq
      have hp1 : (upd H1 q (.lst [.int (j : Int)])) p = none := hp
      have s2 : Same H (upd (upd H1 q (.lst [.int (j : Int)])) p (.lst (nats acc ++ [.int (j : Int)]))) := (s1.updAt hq0).trans (Same.upd hp1)
      refine k _ p s2 ((s1.updAt hq0).free hp1) ?_
      rw [upd_same, ← e1, cb_small hj7, nats_app]
      rfl
end
/-! ### _law_part -/
theorem Gives.mono {l : List Nat} {H H1 : Hp} {Q : VK} (k : Gives l H Q) (s : Same H H1) : Gives l H1 Q := fun H' p s' n h => k H' p (s.trans s') (s.free n) h
theorem idx_here {l : List Str} {x : Str} {j : Nat} (hj : l[j]? = some x) : (l.map V.str)[j]? = some (V.str x) := by rw [List.getElem?_map, hj]; rfl
theorem idx_eq (x : Str) : eqV (.str x) (.str x) = true := by show (x == x) = true; exact beq_self_eq_true x
theorem idx_no {l : List Str} {x : Str} {j : Nat} (hno : ∀ m, m < j → l[m]? ≠ some x) : ∀ (m : Nat) (z' : V), m < j → (l.map V.str)[m]? = some z' → eqV z' (.str x) = false := by
  intro m z hm hz
  rw [List.getElem?_map] at hz
  cases e : l[m]? with
  | none => rw [e] at hz; cases hz
  | some y =>
    rw [e] at hz
    obtain rfl := (Option.some.inj hz).symm
    show (y == x) = false
    rw [beq_eq_false_iff_ne]
    intro z
    subst z
    exact hno m hm e
theorem ls_reg : ∀ s : Srt, inV (.str (ls s)) [.str "d", .str "k", .str "m"] = isReg s := by
  intro s; cases s <;> decide +kernel
theorem ls_pl : ∀ s : Srt, inV (.str (ls s)) [.str "x", .str "y"] = (decide (s = .keys) || decide (s = .members)) := by
  intro s; cases s <;> decide +kernel
def spLPt (K : PySem.W.Frag) : Sp := fun vs H Q _ => ∃ (s : Srt) (v : V) (x : Prt), vs = [.str (ls s), v] ∧ typP s x ∧ cntP bigM x ∧ Dp K H v (datP x) ∧ (encP x).length ≤ 1000000 ∧ Gives (encP x) H Q
abbrev sLPt : Stmt := top 52
section
variable {P : Program} {w : World} {K : PySem.W.Frag} {mg : Str → Option Value} {base : Heap}
theorem scLPt : FnScope ["_law_sort", "_law_part_here", "_law_number", "_law_found", "_law_k", "_law_place_here", "_law_words", "_law_char"] ["_law_sort", "_law_part_here"] (defScope sLPt) := ⟨rfl, rfl, rfl, by decide +kernel, rfl, by decide +kernel, by decide +kernel⟩
theorem ok_lpt {f : Addr} {fd : FuncData} (F : Fun K "_law_part" "_law_part" sLPt f fd) (T : Txt w K mg) (cLN : C8.Cal P w K mg base 1 "_law_count" spLN []) : FnOk P w K mg base CX0 2 f fd ["_law_sort", "_law_part_here"] (spLPt K) := by
  refine F.ok scLPt (fun vs H Q E h => ?_) (fun cdv A outer s0 H vs Q E hr h => ?_)
  · obtain ⟨s, v, x, rfl, _⟩ := h
    rfl
  · obtain ⟨s, v, x, rfl, ht, hcn, hd, hz, k⟩ := h
    refine ⟨_, pss_cons (ps_if (pt_cmpR op_in_seq (pv 0) (pe_tup (pa_cons pe_str (pa_cons pe_str (pa_cons pe_str pa_nil)))) (by rfl)) (pss_one (ps_ret (pe_lst (pa_cons (pe_op op_mod (pv 1) pe_int) pa_nil)))) pss_nil)
      (pss_cons (ps_if (pt_cmpR op_eq (pv 0) pe_str (nomark _)) (pss_one (ps_ret (C8.pe_c cLN hr (by decide) (by rfl) (pa_cons (pv 1) pa_nil)))) pss_nil)
      (pss_cons (ps_if (PW.pt (pw_and (pt_cmpR op_eq (pv 0) pe_str (nomark _)) (pw_and1 (pt_cmpR op_eq (pe_ix ix_tup (pv 1) pe_int (fun _ _ => rfl)) pe_str (nomark _)))))
        (pss_one (ps_ret (pe_op op_cat (pe_op op_cat (pe_lst (pa_cons pe_int pa_nil)) (C8.pe_c cLN hr (by decide) (by rfl) (pa_cons (pe_callB call_len_str (by rfl) T.len PySem.boot_len (pa_cons (pe_ix ix_tup (pv 1) pe_int (fun _ _ => rfl)) pa_nil)) pa_nil)))
          (pe_lc (own := [("_law_char", 7)]) (g := gName 7) (tt := tYes) rfl scLPt.nd (pi_str (pe_ix ix_tup (pv 1) pe_int (fun _ _ => rfl))) (blkOk_by (N := ["_law_sort", "_law_part_here", "_law_number", "_law_found", "_law_k", "_law_place_here", "_law_words", "_law_char"]) (sc := defScope sLPt) (by decide +kernel))
            (fun _ _ _ _ _ => pg_name (i := 7) scLPt.nd rfl (Or.inl rfl)) (fun _ _ _ _ _ => pts_nil) (fun _ _ _ _ _ => pe_callB call_ord (by rfl) T.ord (by decide +kernel) (pa_cons (pv 7) pa_nil)))))) pss_nil)
      (pss_cons (ps_if (pt_cmpR op_eq (pv 0) pe_str (nomark _))
        (pss_cons (ps_set (i := 2) scLPt.nd rfl (Or.inl rfl) (pe_op op_mod (pe_op op_add (pe_ix ix_tup (pv 1) pe_int (fun _ _ => rfl)) (pe_op op_pow pe_int pe_int)) (pe_op op_pow pe_int pe_int)))
        (pss_cons (ps_set (i := 3) scLPt.nd rfl (Or.inl rfl) (pe_lst (pa_cons pe_int pa_nil)))
        (pss_cons (ps_for PassesOwn.never rfl (pi_range1 (by rfl) T.range (pa_cons pe_int pa_nil)) (pg_name (i := 4) scLPt.nd rfl (Or.inl rfl))
          (pss_cons (ps_expr (pe_bm PySem.F.plainAttrs_list PySem.F.slot_list_append PySem.F.type_list_append mt_append (pv 3) (pa_cons (pe_op op_mod (pv 2) pe_int) pa_nil)))
          (pss_one (ps_set (i := 2) scLPt.nd rfl (Or.inl rfl) (pe_op op_fdiv (pv 2) pe_int)))))
        (pss_one (ps_ret (pv 3)))))) pss_nil)
      (pss_cons (ps_if (pt_cmpR op_in_seq (pv 0) (pe_tup (pa_cons pe_str (pa_cons pe_str pa_nil))) (by rfl))
        (pss_cons (ps_set (i := 3) scLPt.nd rfl (Or.inl rfl) (C8.pe_c cLN hr (by decide) (by rfl) (pa_cons (pe_callB call_len_seq (by rfl) T.len PySem.boot_len (pa_cons (pv 1) pa_nil)) pa_nil)))
        (pss_cons (ps_for PassesOwn.never rfl (pi_tup (pv 1)) (pg_name (i := 5) scLPt.nd rfl (Or.inl rfl))
          (pss_one (ps_set (i := 3) scLPt.nd rfl (Or.inl rfl) (pe_op op_cat (pv 3) (C8.pe_c cLN hr (by decide) (by rfl) (pa_cons (pv 5) pa_nil))))))
        (pss_one (ps_ret (pv 3))))) pss_nil)
      (pss_cons (ps_set (i := 6) scLPt.nd rfl (Or.inl rfl) (pe_disp (pps_cons pe_str (pe_lst (pa_cons pe_str (pa_cons pe_str (pa_cons pe_str (pa_cons pe_str (pa_cons pe_str (pa_cons pe_str pa_nil))))))) (pps_cons pe_str (pe_lst (pa_cons pe_str (pa_cons pe_str (pa_cons pe_str (pa_cons pe_str (pa_cons pe_str pa_nil)))))) (pps_cons pe_str (pe_lst (pa_cons pe_str (pa_cons pe_str pa_nil))) pps_nil))) rfl rfl (by simp) (by decide)))
      (pss_cons (ps_dput (units1 hr) (pv 6) pe_str (pe_lst (pa_cons pe_str (pa_cons pe_str (pa_cons pe_str (pa_cons pe_str (pa_cons pe_str (pa_cons pe_str pa_nil))))))) rfl)
      (pss_one (ps_ret (pe_lst (pa_cons (pe_bm PySem.F.plainAttrs_list PySem.F.slot_list_index PySem.F.type_list_index mt_index (pe_dget (units1 hr) (pv 6) (pv 0) (fun _ _ => rfl)) (pa_cons (pv 1) pa_nil)) pa_nil)))))))))), ?_⟩
    cases s
    case d =>
      cases x <;> first | exact False.elim ht | skip
      rename_i n
      obtain rfl := hd.int_inv
      refine ⟨_, rfl, by show 3 ≤ sizeLine; decide, fun t0 nt0 => ⟨t0, _, rfl, .inr (SqT.of upd_same), rfl, rfl, _, rfl, ifT (ls_reg _) ?_⟩⟩
      refine ⟨_, rfl, _, _, rfl, rfl, (by show (0 : Int) < 256; decide), by show 1 ≤ sizeLine; decide, fun p np => ?_⟩
      refine k.mono (Same.upd nt0) _ p (Same.upd np) np ?_
      rw [upd_same]
      have e : (((n % 256).toNat : Nat) : Int) = n % 256 := by omega
      show some (HO.lst [V.int (n % 256)]) = some (HO.lst [V.int (((n % 256).toNat : Nat) : Int)])
      rw [e]
    case a =>
      cases x <;> first | exact False.elim ht | skip
      rename_i n
      obtain rfl := hd.int_inv
      refine ⟨_, rfl, by show 3 ≤ sizeLine; decide, fun t0 nt0 => ⟨t0, _, rfl, .inr (SqT.of upd_same), rfl, rfl, _, rfl, ifT (ls_reg _) ?_⟩⟩
      refine ⟨_, rfl, _, _, rfl, rfl, (by show (0 : Int) < 256; decide), by show 1 ≤ sizeLine; decide, fun p np => ?_⟩
      refine k.mono (Same.upd nt0) _ p (Same.upd np) np ?_
      rw [upd_same]
      have e : (((n % 256).toNat : Nat) : Int) = n % 256 := by omega
      show some (HO.lst [V.int (n % 256)]) = some (HO.lst [V.int (((n % 256).toNat : Nat) : Int)])
      rw [e]
    case mb =>
      cases x <;> first | exact False.elim ht | skip
      rename_i n
      obtain rfl := hd.int_inv
      refine ⟨_, rfl, by show 3 ≤ sizeLine; decide, fun t0 nt0 => ⟨t0, _, rfl, .inr (SqT.of upd_same), rfl, rfl, _, rfl, ifT (ls_reg _) ?_⟩⟩
      refine ⟨_, rfl, _, _, rfl, rfl, (by show (0 : Int) < 256; decide), by show 1 ≤ sizeLine; decide, fun p np => ?_⟩
      refine k.mono (Same.upd nt0) _ p (Same.upd np) np ?_
      rw [upd_same]
      have e : (((n % 256).toNat : Nat) : Int) = n % 256 := by omega
      show some (HO.lst [V.int (n % 256)]) = some (HO.lst [V.int (((n % 256).toNat : Nat) : Int)])
      rw [e]
    case k =>
      cases x <;> first | exact False.elim ht | skip
      rename_i n
      obtain rfl := hd.int_inv
      refine ⟨_, rfl, by show 3 ≤ sizeLine; decide, fun t0 nt0 => ⟨t0, _, rfl, .inr (SqT.of upd_same), rfl, rfl, _, rfl, ifT (ls_reg _) ?_⟩⟩
      refine ⟨_, rfl, _, _, rfl, rfl, (by show (0 : Int) < 256; decide), by show 1 ≤ sizeLine; decide, fun p np => ?_⟩
      refine k.mono (Same.upd nt0) _ p (Same.upd np) np ?_
      rw [upd_same]
      have e : (((n % 256).toNat : Nat) : Int) = n % 256 := by omega
      show some (HO.lst [V.int (n % 256)]) = some (HO.lst [V.int (((n % 256).toNat : Nat) : Int)])
      rw [e]
    case p =>
      cases x <;> first | exact False.elim ht | skip
      rename_i n
      refine ⟨_, rfl, by show 3 ≤ sizeLine; decide, fun t0 nt0 => ⟨t0, _, rfl, .inr (SqT.of upd_same), rfl, rfl, _, rfl, ifF (ls_reg _) ?_⟩⟩
      have s1 : Same H (upd H t0 (.tup [.str "d", .str "k", .str "m"])) := Same.upd nt0
      generalize upd H t0 (.tup [.str "d", .str "k", .str "m"]) = H1 at s1 ⊢
      replace hd := hd.mono s1
      replace k := k.mono s1
      obtain rfl := hd.int_inv
      refine ⟨_, rfl, rfl, _, rfl, ifT (lsT (by decide +kernel)) ?_⟩
      exact ⟨_, rfl, n, rfl, hcn, k⟩
    case i =>
      cases x <;> first | exact False.elim ht | skip
      rename_i n
      refine ⟨_, rfl, by show 3 ≤ sizeLine; decide, fun t0 nt0 => ⟨t0, _, rfl, .inr (SqT.of upd_same), rfl, rfl, _, rfl, ifF (ls_reg _) ?_⟩⟩
      have s1 : Same H (upd H t0 (.tup [.str "d", .str "k", .str "m"])) := Same.upd nt0
      generalize upd H t0 (.tup [.str "d", .str "k", .str "m"]) = H1 at s1 ⊢
      replace hd := hd.mono s1
      replace k := k.mono s1
      obtain rfl := hd.int_inv
      refine ⟨_, rfl, rfl, _, rfl, ifT (lsT (by decide +kernel)) ?_⟩
      exact ⟨_, rfl, n, rfl, hcn, k⟩
    case t =>
      cases x <;> first | exact False.elim ht | skip
      rename_i n
      refine ⟨_, rfl, by show 3 ≤ sizeLine; decide, fun t0 nt0 => ⟨t0, _, rfl, .inr (SqT.of upd_same), rfl, rfl, _, rfl, ifF (ls_reg _) ?_⟩⟩
      have s1 : Same H (upd H t0 (.tup [.str "d", .str "k", .str "m"])) := Same.upd nt0
      generalize upd H t0 (.tup [.str "d", .str "k", .str "m"]) = H1 at s1 ⊢
      replace hd := hd.mono s1
      replace k := k.mono s1
      obtain rfl := hd.int_inv
      refine ⟨_, rfl, rfl, _, rfl, ifT (lsT (by decide +kernel)) ?_⟩
      exact ⟨_, rfl, n, rfl, hcn, k⟩
    case value =>
      refine ⟨_, rfl, by show 3 ≤ sizeLine; decide, fun t0 nt0 => ⟨t0, _, rfl, .inr (SqT.of upd_same), rfl, rfl, _, rfl, ifF (ls_reg _) ?_⟩⟩
      have s1 : Same H (upd H t0 (.tup [.str "d", .str "k", .str "m"])) := Same.upd nt0
      generalize upd H t0 (.tup [.str "d", .str "k", .str "m"]) = H1 at s1 ⊢
      replace hd := hd.mono s1
      replace k := k.mono s1
      refine ⟨_, rfl, rfl, _, rfl, ifF (lsF (by decide +kernel)) ?_⟩
      have h1v : typP .value x → (∃ i, x = .val i) ∨ ∃ t, x = .txt t := by
        intro h
        cases x <;> first | exact h.elim | exact .inl ⟨_, rfl⟩ | exact .inr ⟨_, rfl⟩
      rcases h1v ht with ⟨i, rfl⟩ | ⟨t, rfl⟩
      · obtain ⟨a, xs, rfl, hq, hda⟩ := hd.tup_inv
        cases hda with
        | cons g1 r1 =>
          cases r1 with
          | cons g2 r2 =>
            cases r2
            obtain rfl := g1.str_inv
            obtain rfl := g2.int_inv
            refine ⟨_, rfl, rfl, true, congrArg V.bl (lsT (by decide +kernel)), ⟨_, rfl, a, _, 0, _, rfl, rfl, hq, rfl, rfl, false, congrArg V.bl (decide_eq_false (by intro e; exact absurd (V.str.inj e) (by decide +kernel))), ?_⟩⟩
            refine ⟨_, rfl, rfl, _, rfl, ifT (lsT (by decide +kernel)) ?_⟩
            have e64 : (2 : Int) ^ (64 : Int).toNat = 18446744073709551616 := by decide
            have eu : (i + (2 : Int) ^ (64 : Int).toNat) % (2 : Int) ^ (64 : Int).toNat = ((unsig i : Nat) : Int) := by
              rw [e64, unsig_cast]
              omega
            refine ⟨_, rfl, a, _, 1, _, rfl, rfl, hq, rfl, _, _, rfl, rfl, ⟨by decide, by decide, by decide⟩, _, _, rfl, rfl, _, _, rfl, rfl, ⟨by decide, by decide, by decide⟩, _, _, rfl, rfl, by show (0 : Int) < (2 : Int) ^ (64 : Int).toNat; rw [e64]; decide, ?_⟩
            refine ⟨by show 1 ≤ sizeLine; decide, fun l hl => ?_⟩
            refine ⟨8, rfl, by decide, by decide, for_range (n := 8) (fun j σ H' => ∃ v4 : Option V, σ = [some (.str (ls .value)), some (.ref a), some (.int ((unsig i / 256 ^ j : Nat) : Int)), some (.ref l), v4, none, none, none] ∧ Same H1 H' ∧ H' l = some (.lst (nats (0 :: leB j (unsig i)))))
              ⟨none, ?_, Same.upd hl, upd_same⟩ ?_ ?_⟩
            · rw [Nat.pow_zero, Nat.div_one, ← eu]
              rfl
            · rintro j σ H2 hj ⟨v3, rfl, s2, h2⟩
              refine ⟨_, rfl, .inl ⟨rfl, _, SqL.of h2⟩, _, rfl, _, _, rfl, rfl, (by show (0 : Int) < 256; decide), l, _, _, rfl, rfl, h2, smallLt (by rw [nats_length]; simp [leB_length]; omega), ?_⟩
              refine ⟨_, rfl, _, _, rfl, rfl, ⟨by decide, by decide⟩, ?_⟩
              refine ⟨some (.int (0 + (j : Int))), ?_, s2.updAt hl, ?_⟩
              · have e : unsig i / 256 ^ (j + 1) = unsig i / 256 ^ j / 256 := by rw [Nat.div_div_eq_div_mul, Nat.pow_succ]
                rw [e]
                rfl
              · rw [upd_same, leB_snoc, ← List.cons_append, nats_app]
                rfl
            · rintro σ H2 ⟨v3, rfl, s2, h2⟩
              exact ⟨_, rfl, k _ l s2 hl h2⟩
      · obtain ⟨a, xs, rfl, hq, hda⟩ := hd.tup_inv
        cases hda with
        | cons g1 r1 =>
          cases r1 with
          | cons g2 r2 =>
            cases r2
            obtain rfl := g1.str_inv
            obtain rfl := g2.str_inv
            have hl : t.length ≤ 1000000 := by
              simp only [encP, List.length_cons, List.length_append] at hz
              omega
            have hbm : t.length ≤ bigM := Nat.le_trans hl (by decide +kernel)
            have hl2 : (SX.S t).length = t.length := SX.S_len t
            refine ⟨_, rfl, rfl, true, congrArg V.bl (lsT (by decide +kernel)), ⟨_, rfl, a, _, 0, _, rfl, rfl, hq, rfl, rfl, true, congrArg V.bl (decide_eq_true rfl), ?_⟩⟩
            refine ⟨by show 1 ≤ sizeLine; decide, fun l hl1 => ?_⟩
            have s0 : Same H1 (upd H1 l (.lst [.int 1])) := Same.upd hl1
            refine ⟨_, rfl, a, _, 1, _, rfl, rfl, s0.seqT hq, rfl, _, rfl, by rw [hl2]; exact small hl, t.length, by rw [hl2]; rfl, hbm, fun H2 p1 s1' n1 h1 => ?_⟩
            refine ⟨l, p1, _, _, rfl, rfl, s1' _ _ upd_same, h1, small (by simp only [encP, List.length_cons, List.length_append] at hz; rw [nats_length]; simp; omega), fun p2 n2 => ?_⟩
            have s2 : Same H1 (upd H2 p2 (.lst ([V.int 1] ++ nats (cb t.length)))) := (s0.trans s1').trans (Same.upd n2)
            have np2 : H1 p2 = none := (s0.trans s1').free n2
            refine ⟨_, rfl, a, _, 1, _, rfl, rfl, s2.seqT hq, rfl, _, rfl, fun D nD => ?_⟩
            refine lc_it walk_str (fun j H' => Same (upd H2 p2 (.lst ([V.int 1] ++ nats (cb t.length)))) H' ∧ H' D = some (.lst (nats (t.take j)))) ⟨Same.upd nD, upd_same⟩ (fun _ _ _ _ => True.intro) ?_ ?_
            · rintro j x2 H3 H3' hj ⟨s3, h3⟩ ⟨rfl, c, hc, rfl⟩
              have hc' : t[j]? = some c := by
                have : (SX.S t).cps[j]? = some c := hc
                simpa [SX.S] using this
              refine ⟨rfl, _, rfl, _, rfl, rfl, _, h3, smallLt (by rw [nats_length, List.length_take]; omega), ?_⟩
              refine ⟨s3.updAt nD, ?_⟩
              rw [upd_same, List.take_add_one, hc', nats_app]
              rfl
            · rintro H3 ⟨s3, h3⟩
              have e : t.take (SX.S t).cps.size = t := List.take_of_length_le (by simp [SX.S])
              rw [e] at h3
              refine ⟨p2, D, _, _, rfl, rfl, s3 _ _ upd_same, h3, small (by simp only [encP, List.length_cons, List.length_append] at hz; simp [nats_length]; omega), fun p3 n3 => ?_⟩
              have s4 : Same H1 H3 := s2.trans s3
              refine k _ p3 (s4.updAt (s4.free n3)) (s4.free n3) ?_
              rw [upd_same]
              have e3 : nats (1 :: (cb t.length ++ t)) = [V.int 1] ++ nats (cb t.length) ++ nats t := by
                rw [nats_app' 1, nats_app]
                rfl
              simp only [encP]
              rw [e3]
    case keys =>
      cases x <;> first | exact False.elim ht | skip
      rename_i l
      refine ⟨_, rfl, by show 3 ≤ sizeLine; decide, fun t0 nt0 => ⟨t0, _, rfl, .inr (SqT.of upd_same), rfl, rfl, _, rfl, ifF (ls_reg _) ?_⟩⟩
      have s1 : Same H (upd H t0 (.tup [.str "d", .str "k", .str "m"])) := Same.upd nt0
      generalize upd H t0 (.tup [.str "d", .str "k", .str "m"]) = H1 at s1 ⊢
      replace hd := hd.mono s1
      replace k := k.mono s1
      refine ⟨_, rfl, rfl, _, rfl, ifF (lsF (by decide +kernel)) ?_⟩
      refine ⟨_, rfl, rfl, false, congrArg V.bl (lsF (by decide +kernel)), ?_⟩
      refine ⟨_, rfl, rfl, _, rfl, ifF (lsF (by decide +kernel)) ?_⟩
      refine ⟨_, rfl, by show 2 ≤ sizeLine; decide, fun t1 nt1 => ⟨t1, _, rfl, .inr (SqT.of upd_same), rfl, rfl, _, rfl, ifT (ls_pl _) ?_⟩⟩
      have s2 : Same H1 (upd H1 t1 (.tup [.str "x", .str "y"])) := Same.upd nt1
      generalize upd H1 t1 (.tup [.str "x", .str "y"]) = H2 at s2 ⊢
      replace hd := hd.mono s2
      replace k := k.mono s2
      obtain ⟨a, xs, rfl, hq, hda⟩ := hd.tup_inv
      obtain rfl := hda.nats_inv
      have hz1 : (cb l.length).length + (l.flatMap cb).length ≤ 1000000 := by simpa only [encP, List.length_append] using hz
      have hl1 := flat_le1 (e := cb) (fun x => cb_pos x) l
      refine ⟨_, rfl, a, _, rfl, .inr hq, l.length, by rw [nats_length]; rfl, Nat.le_trans (show l.length ≤ 1000000 by omega) (by decide +kernel), fun H3 p3 s3 n3 h3 => ?_⟩
      refine ⟨_, rfl, a, rfl, ⟨_, s3.seqT hq⟩, for_tup (xs := nats l) (fun i σ H' => ∃ (pf : Addr) (v5 : Option V), σ = [some (.str (ls .keys)), some (.ref a), none, some (.ref pf), none, v5, none, none] ∧ Same H2 H' ∧ H2 pf = none ∧ H' pf = some (.lst (nats (cb l.length ++ (l.take i).flatMap cb))))
        ⟨p3, none, rfl, s3, n3, by simpa using h3⟩ (fun i σ H' _ ⟨_, _, _, s5, _⟩ => s5.seqT hq) ?_ ?_⟩
      · rintro i y σ H4 hi ⟨pf, v5, rfl, s4, npf, h4⟩
        obtain ⟨n, hn, rfl⟩ := nats_get hi
        have hle := congrArg List.length (K53.flat_at (e := cb) hn)
        simp only [List.length_append] at hle
        refine ⟨_, rfl, _, rfl, n, rfl, hcn n (List.mem_of_getElem? hn), fun H5 p5 s5 n5 h5 => ?_⟩
        refine ⟨pf, p5, _, _, rfl, rfl, s5 _ _ h4, h5, small (by simp only [List.length_append, nats_length]; omega), fun p6 n6 => ?_⟩
        refine ⟨p6, _, rfl, (s4.trans s5).updAt ((s4.trans s5).free n6), (s4.trans s5).free n6, ?_⟩
        rw [upd_same, ← nats_app, K53.flat_take hn]
        simp only [List.append_assoc]
      · rintro σ H4 ⟨pf, v5, rfl, s4, npf, h4⟩
        rw [nats_length, List.take_length] at h4
        exact ⟨_, rfl, k _ pf s4 npf h4⟩
    case members =>
      cases x <;> first | exact False.elim ht | skip
      rename_i l
      refine ⟨_, rfl, by show 3 ≤ sizeLine; decide, fun t0 nt0 => ⟨t0, _, rfl, .inr (SqT.of upd_same), rfl, rfl, _, rfl, ifF (ls_reg _) ?_⟩⟩
      have s1 : Same H (upd H t0 (.tup [.str "d", .str "k", .str "m"])) := Same.upd nt0
      generalize upd H t0 (.tup [.str "d", .str "k", .str "m"]) = H1 at s1 ⊢
      replace hd := hd.mono s1
      replace k := k.mono s1
      refine ⟨_, rfl, rfl, _, rfl, ifF (lsF (by decide +kernel)) ?_⟩
      refine ⟨_, rfl, rfl, false, congrArg V.bl (lsF (by decide +kernel)), ?_⟩
      refine ⟨_, rfl, rfl, _, rfl, ifF (lsF (by decide +kernel)) ?_⟩
      refine ⟨_, rfl, by show 2 ≤ sizeLine; decide, fun t1 nt1 => ⟨t1, _, rfl, .inr (SqT.of upd_same), rfl, rfl, _, rfl, ifT (ls_pl _) ?_⟩⟩
      have s2 : Same H1 (upd H1 t1 (.tup [.str "x", .str "y"])) := Same.upd nt1
      generalize upd H1 t1 (.tup [.str "x", .str "y"]) = H2 at s2 ⊢
      replace hd := hd.mono s2
      replace k := k.mono s2
      obtain ⟨a, xs, rfl, hq, hda⟩ := hd.tup_inv
      obtain rfl := hda.nats_inv
      have hz1 : (cb l.length).length + (l.flatMap cb).length ≤ 1000000 := by simpa only [encP, List.length_append] using hz
      have hl1 := flat_le1 (e := cb) (fun x => cb_pos x) l
      refine ⟨_, rfl, a, _, rfl, .inr hq, l.length, by rw [nats_length]; rfl, Nat.le_trans (show l.length ≤ 1000000 by omega) (by decide +kernel), fun H3 p3 s3 n3 h3 => ?_⟩
      refine ⟨_, rfl, a, rfl, ⟨_, s3.seqT hq⟩, for_tup (xs := nats l) (fun i σ H' => ∃ (pf : Addr) (v5 : Option V), σ = [some (.str (ls .members)), some (.ref a), none, some (.ref pf), none, v5, none, none] ∧ Same H2 H' ∧ H2 pf = none ∧ H' pf = some (.lst (nats (cb l.length ++ (l.take i).flatMap cb))))
        ⟨p3, none, rfl, s3, n3, by simpa using h3⟩ (fun i σ H' _ ⟨_, _, _, s5, _⟩ => s5.seqT hq) ?_ ?_⟩
      · rintro i y σ H4 hi ⟨pf, v5, rfl, s4, npf, h4⟩
        obtain ⟨n, hn, rfl⟩ := nats_get hi
        have hle := congrArg List.length (K53.flat_at (e := cb) hn)
        simp only [List.length_append] at hle
        refine ⟨_, rfl, _, rfl, n, rfl, hcn n (List.mem_of_getElem? hn), fun H5 p5 s5 n5 h5 => ?_⟩
        refine ⟨pf, p5, _, _, rfl, rfl, s5 _ _ h4, h5, small (by simp only [List.length_append, nats_length]; omega), fun p6 n6 => ?_⟩
        refine ⟨p6, _, rfl, (s4.trans s5).updAt ((s4.trans s5).free n6), (s4.trans s5).free n6, ?_⟩
        rw [upd_same, ← nats_app, K53.flat_take hn]
        simp only [List.append_assoc]
      · rintro σ H4 ⟨pf, v5, rfl, s4, npf, h4⟩
        rw [nats_length, List.take_length] at h4
        exact ⟨_, rfl, k _ pf s4 npf h4⟩
    case word =>
      cases x <;> first | exact False.elim ht | skip
      rename_i c j
      obtain ⟨rfl, hj⟩ := (show c = 0 ∧ j < nC 0 from ht)
      refine ⟨_, rfl, by show 3 ≤ sizeLine; decide, fun t0 nt0 => ⟨t0, _, rfl, .inr (SqT.of upd_same), rfl, rfl, _, rfl, ifF (ls_reg _) ?_⟩⟩
      have s1 : Same H (upd H t0 (.tup [.str "d", .str "k", .str "m"])) := Same.upd nt0
      generalize upd H t0 (.tup [.str "d", .str "k", .str "m"]) = H1 at s1 ⊢
      replace hd := hd.mono s1
      replace k := k.mono s1
      obtain rfl := hd.str_inv
      refine ⟨_, rfl, rfl, _, rfl, ifF (lsF (by decide +kernel)) ?_⟩
      refine ⟨_, rfl, rfl, false, congrArg V.bl (lsF (by decide +kernel)), ?_⟩
      refine ⟨_, rfl, rfl, _, rfl, ifF (lsF (by decide +kernel)) ?_⟩
      refine ⟨_, rfl, by show 2 ≤ sizeLine; decide, fun t1 nt1 => ⟨t1, _, rfl, .inr (SqT.of upd_same), rfl, rfl, _, rfl, ifF (ls_pl _) ?_⟩⟩
      have s2 : Same H1 (upd H1 t1 (.tup [.str "x", .str "y"])) := Same.upd nt1
      generalize upd H1 t1 (.tup [.str "x", .str "y"]) = H2 at s2 ⊢
      replace k := k.mono s2
      intro dd nd
      have s0 : Same H2 (upd H2 dd (.dK [])) := Same.upd nd
      have h0 : upd H2 dd (.dK []) dd = some (.dK []) := upd_same
      generalize upd H2 dd (.dK []) = K0 at s0 h0 ⊢
      refine ⟨by show 6 ≤ sizeLine; decide, fun p1 np1 => ?_⟩
      have s1' : Same K0 (upd K0 p1 (.lst [.str "now", .str "cpu", .str "pid", .str "tid", .str "at", .str "name"])) := Same.upd np1
      have l1 : upd K0 p1 (.lst [.str "now", .str "cpu", .str "pid", .str "tid", .str "at", .str "name"]) p1 = some (.lst ((cws 0).map V.str)) := upd_same
      generalize upd K0 p1 (.lst [.str "now", .str "cpu", .str "pid", .str "tid", .str "at", .str "name"]) = K1 at s1' l1 ⊢
      replace h0 := s1' _ _ h0
      replace s0 := s0.trans s1'
      refine ⟨by show 5 ≤ sizeLine; decide, fun p2 np2 => ?_⟩
      have s2' : Same K1 (upd K1 p2 (.lst [.str "+", .str "-", .str "*", .str "/", .str "mod"])) := Same.upd np2
      have l2 : upd K1 p2 (.lst [.str "+", .str "-", .str "*", .str "/", .str "mod"]) p2 = some (.lst ((cws 1).map V.str)) := upd_same
      generalize upd K1 p2 (.lst [.str "+", .str "-", .str "*", .str "/", .str "mod"]) = K2 at s2' l2 ⊢
      replace h0 := s2' _ _ h0
      replace l1 := s2' _ _ l1
      replace s0 := s0.trans s2'
      refine ⟨by show 2 ≤ sizeLine; decide, fun p3 np3 => ?_⟩
      have s3' : Same K2 (upd K2 p3 (.lst [.str "trace", .str "say"])) := Same.upd np3
      have l3 : upd K2 p3 (.lst [.str "trace", .str "say"]) p3 = some (.lst ((cws 3).map V.str)) := upd_same
      generalize upd K2 p3 (.lst [.str "trace", .str "say"]) = K3 at s3' l3 ⊢
      replace h0 := s3' _ _ h0
      replace l1 := s3' _ _ l1
      replace l2 := s3' _ _ l2
      replace s0 := s0.trans s3'
      refine ⟨h0, [(Sum.inr ("w" : Str), V.ref p1), (Sum.inr ("s" : Str), V.ref p2), (Sum.inr ("r" : Str), V.ref p3)], rfl, by show 3 ≤ 15; decide, ?_⟩
      have g0 : upd K3 dd (.dK (mergeK [] [(Sum.inr ("w" : Str), V.ref p1), (Sum.inr ("s" : Str), V.ref p2), (Sum.inr ("r" : Str), V.ref p3)])) dd = some (.dK [(Sum.inr ("w" : Str), V.ref p1), (Sum.inr ("s" : Str), V.ref p2), (Sum.inr ("r" : Str), V.ref p3)]) := by rw [upd_same]; rfl
      have gl1 : upd K3 dd (.dK (mergeK [] [(Sum.inr ("w" : Str), V.ref p1), (Sum.inr ("s" : Str), V.ref p2), (Sum.inr ("r" : Str), V.ref p3)])) p1 = some (.lst ((cws 0).map V.str)) := by rw [upd_ne (fun z => by rw [z, h0] at l1; cases l1)]; exact l1
      have gl2 : upd K3 dd (.dK (mergeK [] [(Sum.inr ("w" : Str), V.ref p1), (Sum.inr ("s" : Str), V.ref p2), (Sum.inr ("r" : Str), V.ref p3)])) p2 = some (.lst ((cws 1).map V.str)) := by rw [upd_ne (fun z => by rw [z, h0] at l2; cases l2)]; exact l2
      have gl3 : upd K3 dd (.dK (mergeK [] [(Sum.inr ("w" : Str), V.ref p1), (Sum.inr ("s" : Str), V.ref p2), (Sum.inr ("r" : Str), V.ref p3)])) p3 = some (.lst ((cws 3).map V.str)) := by rw [upd_ne (fun z => by rw [z, h0] at l3; cases l3)]; exact l3
      have u0 : Same H2 (upd K3 dd (.dK (mergeK [] [(Sum.inr ("w" : Str), V.ref p1), (Sum.inr ("s" : Str), V.ref p2), (Sum.inr ("r" : Str), V.ref p3)]))) := s0.updAt nd
      generalize upd K3 dd (.dK (mergeK [] [(Sum.inr ("w" : Str), V.ref p1), (Sum.inr ("s" : Str), V.ref p2), (Sum.inr ("r" : Str), V.ref p3)])) = K4 at g0 gl1 gl2 gl3 u0 ⊢
      refine ⟨by show 6 ≤ sizeLine; decide, fun p4 np4 => ?_⟩
      have s5 : Same K4 (upd K4 p4 (.lst [.str "==", .str "!=", .str "<", .str "<=", .str ">", .str ">="])) := Same.upd np4
      have l4 : upd K4 p4 (.lst [.str "==", .str "!=", .str "<", .str "<=", .str ">", .str ">="]) p4 = some (.lst ((cws 2).map V.str)) := upd_same
      generalize upd K4 p4 (.lst [.str "==", .str "!=", .str "<", .str "<=", .str ">", .str ">="]) = K5 at s5 l4 ⊢
      replace g0 := s5 _ _ g0
      replace gl1 := s5 _ _ gl1
      replace gl2 := s5 _ _ gl2
      replace gl3 := s5 _ _ gl3
      replace u0 := u0.trans s5
      refine ⟨_, rfl, dd, _, rfl, .inl ⟨_, .inr "c", g0, rfl, small (by show 4 ≤ 1000000; decide), rfl⟩, ?_⟩
      have f0 : upd K5 dd (.dK (putK [(Sum.inr ("w" : Str), V.ref p1), (Sum.inr ("s" : Str), V.ref p2), (Sum.inr ("r" : Str), V.ref p3)] (Sum.inr ("c" : Str)) (V.ref p4))) dd = some (.dK [(Sum.inr ("w" : Str), V.ref p1), (Sum.inr ("s" : Str), V.ref p2), (Sum.inr ("r" : Str), V.ref p3), (Sum.inr ("c" : Str), V.ref p4)]) := by rw [upd_same]; rfl
      have fl1 : upd K5 dd (.dK (putK [(Sum.inr ("w" : Str), V.ref p1), (Sum.inr ("s" : Str), V.ref p2), (Sum.inr ("r" : Str), V.ref p3)] (Sum.inr ("c" : Str)) (V.ref p4))) p1 = some (.lst ((cws 0).map V.str)) := by rw [upd_ne (fun z => by rw [z, g0] at gl1; cases gl1)]; exact gl1
      have fl2 : upd K5 dd (.dK (putK [(Sum.inr ("w" : Str), V.ref p1), (Sum.inr ("s" : Str), V.ref p2), (Sum.inr ("r" : Str), V.ref p3)] (Sum.inr ("c" : Str)) (V.ref p4))) p2 = some (.lst ((cws 1).map V.str)) := by rw [upd_ne (fun z => by rw [z, g0] at gl2; cases gl2)]; exact gl2
      have fl3 : upd K5 dd (.dK (putK [(Sum.inr ("w" : Str), V.ref p1), (Sum.inr ("s" : Str), V.ref p2), (Sum.inr ("r" : Str), V.ref p3)] (Sum.inr ("c" : Str)) (V.ref p4))) p3 = some (.lst ((cws 3).map V.str)) := by rw [upd_ne (fun z => by rw [z, g0] at gl3; cases gl3)]; exact gl3
      have fl4 : upd K5 dd (.dK (putK [(Sum.inr ("w" : Str), V.ref p1), (Sum.inr ("s" : Str), V.ref p2), (Sum.inr ("r" : Str), V.ref p3)] (Sum.inr ("c" : Str)) (V.ref p4))) p4 = some (.lst ((cws 2).map V.str)) := by rw [upd_ne (fun z => by rw [z, g0] at l4; cases l4)]; exact l4
      have t6 : Same H2 (upd K5 dd (.dK (putK [(Sum.inr ("w" : Str), V.ref p1), (Sum.inr ("s" : Str), V.ref p2), (Sum.inr ("r" : Str), V.ref p3)] (Sum.inr ("c" : Str)) (V.ref p4)))) := u0.updAt nd
      generalize upd K5 dd (.dK (putK [(Sum.inr ("w" : Str), V.ref p1), (Sum.inr ("s" : Str), V.ref p2), (Sum.inr ("r" : Str), V.ref p3)] (Sum.inr ("c" : Str)) (V.ref p4))) = K6 at f0 fl1 fl2 fl3 fl4 t6 ⊢
      refine ⟨_, rfl, _, rfl, dd, .ref p1, rfl, .inl ⟨_, .inr (ls .word), .inl f0, rfl, rfl⟩, .inl ⟨rfl, _, SqL.of fl1⟩, _, rfl, ?_⟩
      refine ⟨p1, _, .str (cw 0 j), j, .str (cw 0 j), rfl, rfl, SqL.of fl1, rfl, flat_strs' _, idx_here (cw_here (by rw [cws_len 0 (by decide)]; exact hj)), idx_eq _, idx_no (cw_first 0 (by decide) j hj), ?_⟩
      refine ⟨by show 1 ≤ sizeLine; decide, fun q nq => ?_⟩
      exact k _ q (t6.trans (Same.upd nq)) (t6.free nq) upd_same
    case sign =>
      cases x <;> first | exact False.elim ht | skip
      rename_i c j
      obtain ⟨rfl, hj⟩ := (show c = 1 ∧ j < nC 1 from ht)
      refine ⟨_, rfl, by show 3 ≤ sizeLine; decide, fun t0 nt0 => ⟨t0, _, rfl, .inr (SqT.of upd_same), rfl, rfl, _, rfl, ifF (ls_reg _) ?_⟩⟩
      have s1 : Same H (upd H t0 (.tup [.str "d", .str "k", .str "m"])) := Same.upd nt0
      generalize upd H t0 (.tup [.str "d", .str "k", .str "m"]) = H1 at s1 ⊢
      replace hd := hd.mono s1
      replace k := k.mono s1
      obtain rfl := hd.str_inv
      refine ⟨_, rfl, rfl, _, rfl, ifF (lsF (by decide +kernel)) ?_⟩
      refine ⟨_, rfl, rfl, false, congrArg V.bl (lsF (by decide +kernel)), ?_⟩
      refine ⟨_, rfl, rfl, _, rfl, ifF (lsF (by decide +kernel)) ?_⟩
      refine ⟨_, rfl, by show 2 ≤ sizeLine; decide, fun t1 nt1 => ⟨t1, _, rfl, .inr (SqT.of upd_same), rfl, rfl, _, rfl, ifF (ls_pl _) ?_⟩⟩
      have s2 : Same H1 (upd H1 t1 (.tup [.str "x", .str "y"])) := Same.upd nt1
      generalize upd H1 t1 (.tup [.str "x", .str "y"]) = H2 at s2 ⊢
      replace k := k.mono s2
      intro dd nd
      have s0 : Same H2 (upd H2 dd (.dK [])) := Same.upd nd
      have h0 : upd H2 dd (.dK []) dd = some (.dK []) := upd_same
      generalize upd H2 dd (.dK []) = K0 at s0 h0 ⊢
      refine ⟨by show 6 ≤ sizeLine; decide, fun p1 np1 => ?_⟩
      have s1' : Same K0 (upd K0 p1 (.lst [.str "now", .str "cpu", .str "pid", .str "tid", .str "at", .str "name"])) := Same.upd np1
      have l1 : upd K0 p1 (.lst [.str "now", .str "cpu", .str "pid", .str "tid", .str "at", .str "name"]) p1 = some (.lst ((cws 0).map V.str)) := upd_same
      generalize upd K0 p1 (.lst [.str "now", .str "cpu", .str "pid", .str "tid", .str "at", .str "name"]) = K1 at s1' l1 ⊢
      replace h0 := s1' _ _ h0
      replace s0 := s0.trans s1'
      refine ⟨by show 5 ≤ sizeLine; decide, fun p2 np2 => ?_⟩
      have s2' : Same K1 (upd K1 p2 (.lst [.str "+", .str "-", .str "*", .str "/", .str "mod"])) := Same.upd np2
      have l2 : upd K1 p2 (.lst [.str "+", .str "-", .str "*", .str "/", .str "mod"]) p2 = some (.lst ((cws 1).map V.str)) := upd_same
      generalize upd K1 p2 (.lst [.str "+", .str "-", .str "*", .str "/", .str "mod"]) = K2 at s2' l2 ⊢
      replace h0 := s2' _ _ h0
      replace l1 := s2' _ _ l1
      replace s0 := s0.trans s2'
      refine ⟨by show 2 ≤ sizeLine; decide, fun p3 np3 => ?_⟩
      have s3' : Same K2 (upd K2 p3 (.lst [.str "trace", .str "say"])) := Same.upd np3
      have l3 : upd K2 p3 (.lst [.str "trace", .str "say"]) p3 = some (.lst ((cws 3).map V.str)) := upd_same
      generalize upd K2 p3 (.lst [.str "trace", .str "say"]) = K3 at s3' l3 ⊢
      replace h0 := s3' _ _ h0
      replace l1 := s3' _ _ l1
      replace l2 := s3' _ _ l2
      replace s0 := s0.trans s3'
      refine ⟨h0, [(Sum.inr ("w" : Str), V.ref p1), (Sum.inr ("s" : Str), V.ref p2), (Sum.inr ("r" : Str), V.ref p3)], rfl, by show 3 ≤ 15; decide, ?_⟩
      have g0 : upd K3 dd (.dK (mergeK [] [(Sum.inr ("w" : Str), V.ref p1), (Sum.inr ("s" : Str), V.ref p2), (Sum.inr ("r" : Str), V.ref p3)])) dd = some (.dK [(Sum.inr ("w" : Str), V.ref p1), (Sum.inr ("s" : Str), V.ref p2), (Sum.inr ("r" : Str), V.ref p3)]) := by rw [upd_same]; rfl
      have gl1 : upd K3 dd (.dK (mergeK [] [(Sum.inr ("w" : Str), V.ref p1), (Sum.inr ("s" : Str), V.ref p2), (Sum.inr ("r" : Str), V.ref p3)])) p1 = some (.lst ((cws 0).map V.str)) := by rw [upd_ne (fun z => by rw [z, h0] at l1; cases l1)]; exact l1
      have gl2 : upd K3 dd (.dK (mergeK [] [(Sum.inr ("w" : Str), V.ref p1), (Sum.inr ("s" : Str), V.ref p2), (Sum.inr ("r" : Str), V.ref p3)])) p2 = some (.lst ((cws 1).map V.str)) := by rw [upd_ne (fun z => by rw [z, h0] at l2; cases l2)]; exact l2
      have gl3 : upd K3 dd (.dK (mergeK [] [(Sum.inr ("w" : Str), V.ref p1), (Sum.inr ("s" : Str), V.ref p2), (Sum.inr ("r" : Str), V.ref p3)])) p3 = some (.lst ((cws 3).map V.str)) := by rw [upd_ne (fun z => by rw [z, h0] at l3; cases l3)]; exact l3
      have u0 : Same H2 (upd K3 dd (.dK (mergeK [] [(Sum.inr ("w" : Str), V.ref p1), (Sum.inr ("s" : Str), V.ref p2), (Sum.inr ("r" : Str), V.ref p3)]))) := s0.updAt nd
      generalize upd K3 dd (.dK (mergeK [] [(Sum.inr ("w" : Str), V.ref p1), (Sum.inr ("s" : Str), V.ref p2), (Sum.inr ("r" : Str), V.ref p3)])) = K4 at g0 gl1 gl2 gl3 u0 ⊢
      refine ⟨by show 6 ≤ sizeLine; decide, fun p4 np4 => ?_⟩
      have s5 : Same K4 (upd K4 p4 (.lst [.str "==", .str "!=", .str "<", .str "<=", .str ">", .str ">="])) := Same.upd np4
      have l4 : upd K4 p4 (.lst [.str "==", .str "!=", .str "<", .str "<=", .str ">", .str ">="]) p4 = some (.lst ((cws 2).map V.str)) := upd_same
      generalize upd K4 p4 (.lst [.str "==", .str "!=", .str "<", .str "<=", .str ">", .str ">="]) = K5 at s5 l4 ⊢
      replace g0 := s5 _ _ g0
      replace gl1 := s5 _ _ gl1
      replace gl2 := s5 _ _ gl2
      replace gl3 := s5 _ _ gl3
      replace u0 := u0.trans s5
      refine ⟨_, rfl, dd, _, rfl, .inl ⟨_, .inr "c", g0, rfl, small (by show 4 ≤ 1000000; decide), rfl⟩, ?_⟩
      have f0 : upd K5 dd (.dK (putK [(Sum.inr ("w" : Str), V.ref p1), (Sum.inr ("s" : Str), V.ref p2), (Sum.inr ("r" : Str), V.ref p3)] (Sum.inr ("c" : Str)) (V.ref p4))) dd = some (.dK [(Sum.inr ("w" : Str), V.ref p1), (Sum.inr ("s" : Str), V.ref p2), (Sum.inr ("r" : Str), V.ref p3), (Sum.inr ("c" : Str), V.ref p4)]) := by rw [upd_same]; rfl
      have fl1 : upd K5 dd (.dK (putK [(Sum.inr ("w" : Str), V.ref p1), (Sum.inr ("s" : Str), V.ref p2), (Sum.inr ("r" : Str), V.ref p3)] (Sum.inr ("c" : Str)) (V.ref p4))) p1 = some (.lst ((cws 0).map V.str)) := by rw [upd_ne (fun z => by rw [z, g0] at gl1; cases gl1)]; exact gl1
      have fl2 : upd K5 dd (.dK (putK [(Sum.inr ("w" : Str), V.ref p1), (Sum.inr ("s" : Str), V.ref p2), (Sum.inr ("r" : Str), V.ref p3)] (Sum.inr ("c" : Str)) (V.ref p4))) p2 = some (.lst ((cws 1).map V.str)) := by rw [upd_ne (fun z => by rw [z, g0] at gl2; cases gl2)]; exact gl2
      have fl3 : upd K5 dd (.dK (putK [(Sum.inr ("w" : Str), V.ref p1), (Sum.inr ("s" : Str), V.ref p2), (Sum.inr ("r" : Str), V.ref p3)] (Sum.inr ("c" : Str)) (V.ref p4))) p3 = some (.lst ((cws 3).map V.str)) := by rw [upd_ne (fun z => by rw [z, g0] at gl3; cases gl3)]; exact gl3
      have fl4 : upd K5 dd (.dK (putK [(Sum.inr ("w" : Str), V.ref p1), (Sum.inr ("s" : Str), V.ref p2), (Sum.inr ("r" : Str), V.ref p3)] (Sum.inr ("c" : Str)) (V.ref p4))) p4 = some (.lst ((cws 2).map V.str)) := by rw [upd_ne (fun z => by rw [z, g0] at l4; cases l4)]; exact l4
      have t6 : Same H2 (upd K5 dd (.dK (putK [(Sum.inr ("w" : Str), V.ref p1), (Sum.inr ("s" : Str), V.ref p2), (Sum.inr ("r" : Str), V.ref p3)] (Sum.inr ("c" : Str)) (V.ref p4)))) := u0.updAt nd
      generalize upd K5 dd (.dK (putK [(Sum.inr ("w" : Str), V.ref p1), (Sum.inr ("s" : Str), V.ref p2), (Sum.inr ("r" : Str), V.ref p3)] (Sum.inr ("c" : Str)) (V.ref p4))) = K6 at f0 fl1 fl2 fl3 fl4 t6 ⊢
      refine ⟨_, rfl, _, rfl, dd, .ref p2, rfl, .inl ⟨_, .inr (ls .sign), .inl f0, rfl, rfl⟩, .inl ⟨rfl, _, SqL.of fl2⟩, _, rfl, ?_⟩
      refine ⟨p2, _, .str (cw 1 j), j, .str (cw 1 j), rfl, rfl, SqL.of fl2, rfl, flat_strs' _, idx_here (cw_here (by rw [cws_len 1 (by decide)]; exact hj)), idx_eq _, idx_no (cw_first 1 (by decide) j hj), ?_⟩
      refine ⟨by show 1 ≤ sizeLine; decide, fun q nq => ?_⟩
      exact k _ q (t6.trans (Same.upd nq)) (t6.free nq) upd_same
    case sort =>
      cases x <;> first | exact False.elim ht | skip
      rename_i c j
      obtain ⟨rfl, hj⟩ := (show c = 3 ∧ j < nC 3 from ht)
      refine ⟨_, rfl, by show 3 ≤ sizeLine; decide, fun t0 nt0 => ⟨t0, _, rfl, .inr (SqT.of upd_same), rfl, rfl, _, rfl, ifF (ls_reg _) ?_⟩⟩
      have s1 : Same H (upd H t0 (.tup [.str "d", .str "k", .str "m"])) := Same.upd nt0
      generalize upd H t0 (.tup [.str "d", .str "k", .str "m"]) = H1 at s1 ⊢
      replace hd := hd.mono s1
      replace k := k.mono s1
      obtain rfl := hd.str_inv
      refine ⟨_, rfl, rfl, _, rfl, ifF (lsF (by decide +kernel)) ?_⟩
      refine ⟨_, rfl, rfl, false, congrArg V.bl (lsF (by decide +kernel)), ?_⟩
      refine ⟨_, rfl, rfl, _, rfl, ifF (lsF (by decide +kernel)) ?_⟩
      refine ⟨_, rfl, by show 2 ≤ sizeLine; decide, fun t1 nt1 => ⟨t1, _, rfl, .inr (SqT.of upd_same), rfl, rfl, _, rfl, ifF (ls_pl _) ?_⟩⟩
      have s2 : Same H1 (upd H1 t1 (.tup [.str "x", .str "y"])) := Same.upd nt1
      generalize upd H1 t1 (.tup [.str "x", .str "y"]) = H2 at s2 ⊢
      replace k := k.mono s2
      intro dd nd
      have s0 : Same H2 (upd H2 dd (.dK [])) := Same.upd nd
      have h0 : upd H2 dd (.dK []) dd = some (.dK []) := upd_same
      generalize upd H2 dd (.dK []) = K0 at s0 h0 ⊢
      refine ⟨by show 6 ≤ sizeLine; decide, fun p1 np1 => ?_⟩
      have s1' : Same K0 (upd K0 p1 (.lst [.str "now", .str "cpu", .str "pid", .str "tid", .str "at", .str "name"])) := Same.upd np1
      have l1 : upd K0 p1 (.lst [.str "now", .str "cpu", .str "pid", .str "tid", .str "at", .str "name"]) p1 = some (.lst ((cws 0).map V.str)) := upd_same
      generalize upd K0 p1 (.lst [.str "now", .str "cpu", .str "pid", .str "tid", .str "at", .str "name"]) = K1 at s1' l1 ⊢
      replace h0 := s1' _ _ h0
      replace s0 := s0.trans s1'
      refine ⟨by show 5 ≤ sizeLine; decide, fun p2 np2 => ?_⟩
      have s2' : Same K1 (upd K1 p2 (.lst [.str "+", .str "-", .str "*", .str "/", .str "mod"])) := Same.upd np2
      have l2 : upd K1 p2 (.lst [.str "+", .str "-", .str "*", .str "/", .str "mod"]) p2 = some (.lst ((cws 1).map V.str)) := upd_same
      generalize upd K1 p2 (.lst [.str "+", .str "-", .str "*", .str "/", .str "mod"]) = K2 at s2' l2 ⊢
      replace h0 := s2' _ _ h0
      replace l1 := s2' _ _ l1
      replace s0 := s0.trans s2'
      refine ⟨by show 2 ≤ sizeLine; decide, fun p3 np3 => ?_⟩
      have s3' : Same K2 (upd K2 p3 (.lst [.str "trace", .str "say"])) := Same.upd np3
      have l3 : upd K2 p3 (.lst [.str "trace", .str "say"]) p3 = some (.lst ((cws 3).map V.str)) := upd_same
      generalize upd K2 p3 (.lst [.str "trace", .str "say"]) = K3 at s3' l3 ⊢
      replace h0 := s3' _ _ h0
      replace l1 := s3' _ _ l1
      replace l2 := s3' _ _ l2
      replace s0 := s0.trans s3'
      refine ⟨h0, [(Sum.inr ("w" : Str), V.ref p1), (Sum.inr ("s" : Str), V.ref p2), (Sum.inr ("r" : Str), V.ref p3)], rfl, by show 3 ≤ 15; decide, ?_⟩
      have g0 : upd K3 dd (.dK (mergeK [] [(Sum.inr ("w" : Str), V.ref p1), (Sum.inr ("s" : Str), V.ref p2), (Sum.inr ("r" : Str), V.ref p3)])) dd = some (.dK [(Sum.inr ("w" : Str), V.ref p1), (Sum.inr ("s" : Str), V.ref p2), (Sum.inr ("r" : Str), V.ref p3)]) := by rw [upd_same]; rfl
      have gl1 : upd K3 dd (.dK (mergeK [] [(Sum.inr ("w" : Str), V.ref p1), (Sum.inr ("s" : Str), V.ref p2), (Sum.inr ("r" : Str), V.ref p3)])) p1 = some (.lst ((cws 0).map V.str)) := by rw [upd_ne (fun z => by rw [z, h0] at l1; cases l1)]; exact l1
      have gl2 : upd K3 dd (.dK (mergeK [] [(Sum.inr ("w" : Str), V.ref p1), (Sum.inr ("s" : Str), V.ref p2), (Sum.inr ("r" : Str), V.ref p3)])) p2 = some (.lst ((cws 1).map V.str)) := by rw [upd_ne (fun z => by rw [z, h0] at l2; cases l2)]; exact l2
      have gl3 : upd K3 dd (.dK (mergeK [] [(Sum.inr ("w" : Str), V.ref p1), (Sum.inr ("s" : Str), V.ref p2), (Sum.inr ("r" : Str), V.ref p3)])) p3 = some (.lst ((cws 3).map V.str)) := by rw [upd_ne (fun z => by rw [z, h0] at l3; cases l3)]; exact l3
      have u0 : Same H2 (upd K3 dd (.dK (mergeK [] [(Sum.inr ("w" : Str), V.ref p1), (Sum.inr ("s" : Str), V.ref p2), (Sum.inr ("r" : Str), V.ref p3)]))) := s0.updAt nd
      generalize upd K3 dd (.dK (mergeK [] [(Sum.inr ("w" : Str), V.ref p1), (Sum.inr ("s" : Str), V.ref p2), (Sum.inr ("r" : Str), V.ref p3)])) = K4 at g0 gl1 gl2 gl3 u0 ⊢
      refine ⟨by show 6 ≤ sizeLine; decide, fun p4 np4 => ?_⟩
      have s5 : Same K4 (upd K4 p4 (.lst [.str "==", .str "!=", .str "<", .str "<=", .str ">", .str ">="])) := Same.upd np4
      have l4 : upd K4 p4 (.lst [.str "==", .str "!=", .str "<", .str "<=", .str ">", .str ">="]) p4 = some (.lst ((cws 2).map V.str)) := upd_same
      generalize upd K4 p4 (.lst [.str "==", .str "!=", .str "<", .str "<=", .str ">", .str ">="]) = K5 at s5 l4 ⊢
      replace g0 := s5 _ _ g0
      replace gl1 := s5 _ _ gl1
      replace gl2 := s5 _ _ gl2
      replace gl3 := s5 _ _ gl3
      replace u0 := u0.trans s5
      refine ⟨_, rfl, dd, _, rfl, .inl ⟨_, .inr "c", g0, rfl, small (by show 4 ≤ 1000000; decide), rfl⟩, ?_⟩
      have f0 : upd K5 dd (.dK (putK [(Sum.inr ("w" : Str), V.ref p1), (Sum.inr ("s" : Str), V.ref p2), (Sum.inr ("r" : Str), V.ref p3)] (Sum.inr ("c" : Str)) (V.ref p4))) dd = some (.dK [(Sum.inr ("w" : Str), V.ref p1), (Sum.inr ("s" : Str), V.ref p2), (Sum.inr ("r" : Str), V.ref p3), (Sum.inr ("c" : Str), V.ref p4)]) := by rw [upd_same]; rfl
      have fl1 : upd K5 dd (.dK (putK [(Sum.inr ("w" : Str), V.ref p1), (Sum.inr ("s" : Str), V.ref p2), (Sum.inr ("r" : Str), V.ref p3)] (Sum.inr ("c" : Str)) (V.ref p4))) p1 = some (.lst ((cws 0).map V.str)) := by rw [upd_ne (fun z => by rw [z, g0] at gl1; cases gl1)]; exact gl1
      have fl2 : upd K5 dd (.dK (putK [(Sum.inr ("w" : Str), V.ref p1), (Sum.inr ("s" : Str), V.ref p2), (Sum.inr ("r" : Str), V.ref p3)] (Sum.inr ("c" : Str)) (V.ref p4))) p2 = some (.lst ((cws 1).map V.str)) := by rw [upd_ne (fun z => by rw [z, g0] at gl2; cases gl2)]; exact gl2
      have fl3 : upd K5 dd (.dK (putK [(Sum.inr ("w" : Str), V.ref p1), (Sum.inr ("s" : Str), V.ref p2), (Sum.inr ("r" : Str), V.ref p3)] (Sum.inr ("c" : Str)) (V.ref p4))) p3 = some (.lst ((cws 3).map V.str)) := by rw [upd_ne (fun z => by rw [z, g0] at gl3; cases gl3)]; exact gl3
      have fl4 : upd K5 dd (.dK (putK [(Sum.inr ("w" : Str), V.ref p1), (Sum.inr ("s" : Str), V.ref p2), (Sum.inr ("r" : Str), V.ref p3)] (Sum.inr ("c" : Str)) (V.ref p4))) p4 = some (.lst ((cws 2).map V.str)) := by rw [upd_ne (fun z => by rw [z, g0] at l4; cases l4)]; exact l4
      have t6 : Same H2 (upd K5 dd (.dK (putK [(Sum.inr ("w" : Str), V.ref p1), (Sum.inr ("s" : Str), V.ref p2), (Sum.inr ("r" : Str), V.ref p3)] (Sum.inr ("c" : Str)) (V.ref p4)))) := u0.updAt nd
      generalize upd K5 dd (.dK (putK [(Sum.inr ("w" : Str), V.ref p1), (Sum.inr ("s" : Str), V.ref p2), (Sum.inr ("r" : Str), V.ref p3)] (Sum.inr ("c" : Str)) (V.ref p4))) = K6 at f0 fl1 fl2 fl3 fl4 t6 ⊢
      refine ⟨_, rfl, _, rfl, dd, .ref p3, rfl, .inl ⟨_, .inr (ls .sort), .inl f0, rfl, rfl⟩, .inl ⟨rfl, _, SqL.of fl3⟩, _, rfl, ?_⟩
      refine ⟨p3, _, .str (cw 3 j), j, .str (cw 3 j), rfl, rfl, SqL.of fl3, rfl, flat_strs' _, idx_here (cw_here (by rw [cws_len 3 (by decide)]; exact hj)), idx_eq _, idx_no (cw_first 3 (by decide) j hj), ?_⟩
      refine ⟨by show 1 ≤ sizeLine; decide, fun q nq => ?_⟩
      exact k _ q (t6.trans (Same.upd nq)) (t6.free nq) upd_same
    case compare =>
      cases x <;> first | exact False.elim ht | skip
      rename_i c j
      obtain ⟨rfl, hj⟩ := (show c = 2 ∧ j < nC 2 from ht)
      refine ⟨_, rfl, by show 3 ≤ sizeLine; decide, fun t0 nt0 => ⟨t0, _, rfl, .inr (SqT.of upd_same), rfl, rfl, _, rfl, ifF (ls_reg _) ?_⟩⟩
      have s1 : Same H (upd H t0 (.tup [.str "d", .str "k", .str "m"])) := Same.upd nt0
      generalize upd H t0 (.tup [.str "d", .str "k", .str "m"]) = H1 at s1 ⊢
      replace hd := hd.mono s1
      replace k := k.mono s1
      obtain rfl := hd.str_inv
      refine ⟨_, rfl, rfl, _, rfl, ifF (lsF (by decide +kernel)) ?_⟩
      refine ⟨_, rfl, rfl, false, congrArg V.bl (lsF (by decide +kernel)), ?_⟩
      refine ⟨_, rfl, rfl, _, rfl, ifF (lsF (by decide +kernel)) ?_⟩
      refine ⟨_, rfl, by show 2 ≤ sizeLine; decide, fun t1 nt1 => ⟨t1, _, rfl, .inr (SqT.of upd_same), rfl, rfl, _, rfl, ifF (ls_pl _) ?_⟩⟩
      have s2 : Same H1 (upd H1 t1 (.tup [.str "x", .str "y"])) := Same.upd nt1
      generalize upd H1 t1 (.tup [.str "x", .str "y"]) = H2 at s2 ⊢
      replace k := k.mono s2
      intro dd nd
      have s0 : Same H2 (upd H2 dd (.dK [])) := Same.upd nd
      have h0 : upd H2 dd (.dK []) dd = some (.dK []) := upd_same
      generalize upd H2 dd (.dK []) = K0 at s0 h0 ⊢
      refine ⟨by show 6 ≤ sizeLine; decide, fun p1 np1 => ?_⟩
      have s1' : Same K0 (upd K0 p1 (.lst [.str "now", .str "cpu", .str "pid", .str "tid", .str "at", .str "name"])) := Same.upd np1
      have l1 : upd K0 p1 (.lst [.str "now", .str "cpu", .str "pid", .str "tid", .str "at", .str "name"]) p1 = some (.lst ((cws 0).map V.str)) := upd_same
      generalize upd K0 p1 (.lst [.str "now", .str "cpu", .str "pid", .str "tid", .str "at", .str "name"]) = K1 at s1' l1 ⊢
      replace h0 := s1' _ _ h0
      replace s0 := s0.trans s1'
      refine ⟨by show 5 ≤ sizeLine; decide, fun p2 np2 => ?_⟩
      have s2' : Same K1 (upd K1 p2 (.lst [.str "+", .str "-", .str "*", .str "/", .str "mod"])) := Same.upd np2
      have l2 : upd K1 p2 (.lst [.str "+", .str "-", .str "*", .str "/", .str "mod"]) p2 = some (.lst ((cws 1).map V.str)) := upd_same
      generalize upd K1 p2 (.lst [.str "+", .str "-", .str "*", .str "/", .str "mod"]) = K2 at s2' l2 ⊢
      replace h0 := s2' _ _ h0
      replace l1 := s2' _ _ l1
      replace s0 := s0.trans s2'
      refine ⟨by show 2 ≤ sizeLine; decide, fun p3 np3 => ?_⟩
      have s3' : Same K2 (upd K2 p3 (.lst [.str "trace", .str "say"])) := Same.upd np3
      have l3 : upd K2 p3 (.lst [.str "trace", .str "say"]) p3 = some (.lst ((cws 3).map V.str)) := upd_same
      generalize upd K2 p3 (.lst [.str "trace", .str "say"]) = K3 at s3' l3 ⊢
      replace h0 := s3' _ _ h0
      replace l1 := s3' _ _ l1
      replace l2 := s3' _ _ l2
      replace s0 := s0.trans s3'
      refine ⟨h0, [(Sum.inr ("w" : Str), V.ref p1), (Sum.inr ("s" : Str), V.ref p2), (Sum.inr ("r" : Str), V.ref p3)], rfl, by show 3 ≤ 15; decide, ?_⟩
      have g0 : upd K3 dd (.dK (mergeK [] [(Sum.inr ("w" : Str), V.ref p1), (Sum.inr ("s" : Str), V.ref p2), (Sum.inr ("r" : Str), V.ref p3)])) dd = some (.dK [(Sum.inr ("w" : Str), V.ref p1), (Sum.inr ("s" : Str), V.ref p2), (Sum.inr ("r" : Str), V.ref p3)]) := by rw [upd_same]; rfl
      have gl1 : upd K3 dd (.dK (mergeK [] [(Sum.inr ("w" : Str), V.ref p1), (Sum.inr ("s" : Str), V.ref p2), (Sum.inr ("r" : Str), V.ref p3)])) p1 = some (.lst ((cws 0).map V.str)) := by rw [upd_ne (fun z => by rw [z, h0] at l1; cases l1)]; exact l1
      have gl2 : upd K3 dd (.dK (mergeK [] [(Sum.inr ("w" : Str), V.ref p1), (Sum.inr ("s" : Str), V.ref p2), (Sum.inr ("r" : Str), V.ref p3)])) p2 = some (.lst ((cws 1).map V.str)) := by rw [upd_ne (fun z => by rw [z, h0] at l2; cases l2)]; exact l2
      have gl3 : upd K3 dd (.dK (mergeK [] [(Sum.inr ("w" : Str), V.ref p1), (Sum.inr ("s" : Str), V.ref p2), (Sum.inr ("r" : Str), V.ref p3)])) p3 = some (.lst ((cws 3).map V.str)) := by rw [upd_ne (fun z => by rw [z, h0] at l3; cases l3)]; exact l3
      have u0 : Same H2 (upd K3 dd (.dK (mergeK [] [(Sum.inr ("w" : Str), V.ref p1), (Sum.inr ("s" : Str), V.ref p2), (Sum.inr ("r" : Str), V.ref p3)]))) := s0.updAt nd
      generalize upd K3 dd (.dK (mergeK [] [(Sum.inr ("w" : Str), V.ref p1), (Sum.inr ("s" : Str), V.ref p2), (Sum.inr ("r" : Str), V.ref p3)])) = K4 at g0 gl1 gl2 gl3 u0 ⊢
      refine ⟨by show 6 ≤ sizeLine; decide, fun p4 np4 => ?_⟩
      have s5 : Same K4 (upd K4 p4 (.lst [.str "==", .str "!=", .str "<", .str "<=", .str ">", .str ">="])) := Same.upd np4
      have l4 : upd K4 p4 (.lst [.str "==", .str "!=", .str "<", .str "<=", .str ">", .str ">="]) p4 = some (.lst ((cws 2).map V.str)) := upd_same
      generalize upd K4 p4 (.lst [.str "==", .str "!=", .str "<", .str "<=", .str ">", .str ">="]) = K5 at s5 l4 ⊢
      replace g0 := s5 _ _ g0
      replace gl1 := s5 _ _ gl1
      replace gl2 := s5 _ _ gl2
      replace gl3 := s5 _ _ gl3
      replace u0 := u0.trans s5
      refine ⟨_, rfl, dd, _, rfl, .inl ⟨_, .inr "c", g0, rfl, small (by show 4 ≤ 1000000; decide), rfl⟩, ?_⟩
      have f0 : upd K5 dd (.dK (putK [(Sum.inr ("w" : Str), V.ref p1), (Sum.inr ("s" : Str), V.ref p2), (Sum.inr ("r" : Str), V.ref p3)] (Sum.inr ("c" : Str)) (V.ref p4))) dd = some (.dK [(Sum.inr ("w" : Str), V.ref p1), (Sum.inr ("s" : Str), V.ref p2), (Sum.inr ("r" : Str), V.ref p3), (Sum.inr ("c" : Str), V.ref p4)]) := by rw [upd_same]; rfl
      have fl1 : upd K5 dd (.dK (putK [(Sum.inr ("w" : Str), V.ref p1), (Sum.inr ("s" : Str), V.ref p2), (Sum.inr ("r" : Str), V.ref p3)] (Sum.inr ("c" : Str)) (V.ref p4))) p1 = some (.lst ((cws 0).map V.str)) := by rw [upd_ne (fun z => by rw [z, g0] at gl1; cases gl1)]; exact gl1
      have fl2 : upd K5 dd (.dK (putK [(Sum.inr ("w" : Str), V.ref p1), (Sum.inr ("s" : Str), V.ref p2), (Sum.inr ("r" : Str), V.ref p3)] (Sum.inr ("c" : Str)) (V.ref p4))) p2 = some (.lst ((cws 1).map V.str)) := by rw [upd_ne (fun z => by rw [z, g0] at gl2; cases gl2)]; exact gl2
      have fl3 : upd K5 dd (.dK (putK [(Sum.inr ("w" : Str), V.ref p1), (Sum.inr ("s" : Str), V.ref p2), (Sum.inr ("r" : Str), V.ref p3)] (Sum.inr ("c" : Str)) (V.ref p4))) p3 = some (.lst ((cws 3).map V.str)) := by rw [upd_ne (fun z => by rw [z, g0] at gl3; cases gl3)]; exact gl3
      have fl4 : upd K5 dd (.dK (putK [(Sum.inr ("w" : Str), V.ref p1), (Sum.inr ("s" : Str), V.ref p2), (Sum.inr ("r" : Str), V.ref p3)] (Sum.inr ("c" : Str)) (V.ref p4))) p4 = some (.lst ((cws 2).map V.str)) := by rw [upd_ne (fun z => by rw [z, g0] at l4; cases l4)]; exact l4
      have t6 : Same H2 (upd K5 dd (.dK (putK [(Sum.inr ("w" : Str), V.ref p1), (Sum.inr ("s" : Str), V.ref p2), (Sum.inr ("r" : Str), V.ref p3)] (Sum.inr ("c" : Str)) (V.ref p4)))) := u0.updAt nd
      generalize upd K5 dd (.dK (putK [(Sum.inr ("w" : Str), V.ref p1), (Sum.inr ("s" : Str), V.ref p2), (Sum.inr ("r" : Str), V.ref p3)] (Sum.inr ("c" : Str)) (V.ref p4))) = K6 at f0 fl1 fl2 fl3 fl4 t6 ⊢
      refine ⟨_, rfl, _, rfl, dd, .ref p4, rfl, .inl ⟨_, .inr (ls .compare), .inl f0, rfl, rfl⟩, .inl ⟨rfl, _, SqL.of fl4⟩, _, rfl, ?_⟩
      refine ⟨p4, _, .str (cw 2 j), j, .str (cw 2 j), rfl, rfl, SqL.of fl4, rfl, flat_strs' _, idx_here (cw_here (by rw [cws_len 2 (by decide)]; exact hj)), idx_eq _, idx_no (cw_first 2 (by decide) j hj), ?_⟩
      refine ⟨by show 1 ≤ sizeLine; decide, fun q nq => ?_⟩
      exact k _ q (t6.trans (Same.upd nq)) (t6.free nq) upd_same
end
end L2.KR

namespace L2.KR
open PySem PySem.Spec PyProof.Rows K53
/-! ### _law_bytes -/
theorem lk_keys : (lkvs.map fun kv => kV kv.1) = wds.map V.str := by decide +kernel
def spLB (K : PySem.W.Frag) : Sp := fun vs H Q _ => ∃ (v : V) (c : K53.Code), vs = [v] ∧ TypC c ∧ (∀ r ∈ c.2, CntR bigM r) ∧ Dp K H v (datC c) ∧ (enc c).length ≤ 1000000 ∧ Gives (enc c) H Q
abbrev sLB : Stmt := top 53
theorem kn_one : ∀ k, k < 2 → (if decide (V.str (kn k) = V.str "str") = true then (1 : Int) else 0) = (k : Int) := by decide +kernel
section
variable {P : Program} {w : World} {K : PySem.W.Frag} {mg : Str → Option Value} {base : Heap}
theorem scLB : FnScope ["_law_code_here", "_law_words", "_law_found", "_law_row_here", "_law_sorts_here", "_law_k", "_law_kind"] ["_law_code_here"] (defScope sLB) := ⟨rfl, rfl, rfl, by decide +kernel, rfl, by decide +kernel, by decide +kernel⟩
theorem ok_lb {f : Addr} {fd : FuncData} (F : Fun K "_law_bytes" "_law_bytes" sLB f fd) (T : Txt w K mg) (cQS : C8.Cal P w K mg base 1 "_law_sorts" spQS []) (cLN : C8.Cal P w K mg base 1 "_law_count" spLN []) (cLPt : C8.Cal P w K mg base 2 "_law_part" (spLPt K) []) : FnOk P w K mg base CX0 3 f fd ["_law_code_here"] (spLB K) := by
  refine F.ok scLB (fun vs H Q E h => ?_) (fun cdv A outer s0 H vs Q E hr h => ?_)
  · obtain ⟨v, x, rfl, _⟩ := h
    rfl
  · obtain ⟨v, c, rfl, ht, hcn, hd, hz, k⟩ := h
    have hr1 : Room 1 _ := hr.mono (by decide)
    refine ⟨_, pss_cons (ps_set (i := 1) scLB.nd rfl (Or.inl rfl) (pe_callTy (call_list_dK rfl) (by rfl) T.list boot_list (pa_cons (pe_c0 cQS hr1 (by decide) (by rfl)) pa_nil)))
      (pss_cons (ps_set (i := 2) scLB.nd rfl (Or.inl rfl) (pe_op op_cat (pe_op op_cat
          (C8.pe_c cLN hr1 (by decide) (by rfl) (pa_cons (pe_callB call_len_seq (by rfl) T.len PySem.boot_len (pa_cons (pe_ix ix_tup (pv 0) pe_int (fun _ _ => rfl)) pa_nil)) pa_nil))
          (pe_lc (own := [("_law_kind", 6)]) (g := gName 6) (tt := tYes) rfl scLB.nd (pi_tup (pe_ix ix_tup (pv 0) pe_int (fun _ _ => rfl))) (blkOk_by (N := ["_law_code_here", "_law_words", "_law_found", "_law_row_here", "_law_sorts_here", "_law_k", "_law_kind"]) (sc := defScope sLB) (by decide +kernel))
            (fun _ _ _ _ _ => pg_name (i := 6) scLB.nd rfl (Or.inl rfl)) (fun _ _ _ _ _ => pts_nil) (fun _ _ _ _ _ => pe_callTy call_int1 (by rfl) T.int boot_int (pa_cons (pe_cmpR op_eq (pv 6) pe_str (nomark _)) pa_nil))))
          (C8.pe_c cLN hr1 (by decide) (by rfl) (pa_cons (pe_callB call_len_seq (by rfl) T.len PySem.boot_len (pa_cons (pe_ix ix_tup (pv 0) pe_int (fun _ _ => rfl)) pa_nil)) pa_nil))))
      (pss_cons (ps_for PassesOwn.never rfl (pi_tup (pe_ix ix_tup (pv 0) pe_int (fun _ _ => rfl))) (pg_name (i := 3) scLB.nd rfl (Or.inl rfl))
        (pss_cons (ps_set (i := 4) scLB.nd rfl (Or.inl rfl) (pe_dget (units1 hr) (pe_c0 cQS hr1 (by decide) (by rfl)) (pe_ix ix_tup (pv 3) pe_int (fun _ _ => rfl)) (fun _ _ => rfl)))
        (pss_cons (ps_expr (pe_bm PySem.F.plainAttrs_list PySem.F.slot_list_append PySem.F.type_list_append mt_append (pv 2) (pa_cons (pe_bm PySem.F.plainAttrs_list PySem.F.slot_list_index PySem.F.type_list_index mt_index (pv 1) (pa_cons (pe_ix ix_tup (pv 3) pe_int (fun _ _ => rfl)) pa_nil)) pa_nil)))
        (pss_one (ps_for PassesOwn.never rfl (pi_range1 (by rfl) T.range (pa_cons (pe_callB call_len_str (by rfl) T.len PySem.boot_len (pa_cons (pv 4) pa_nil)) pa_nil)) (pg_name (i := 5) scLB.nd rfl (Or.inl rfl))
          (pss_one (ps_set (i := 2) scLB.nd rfl (Or.inl rfl) (pe_op op_cat (pv 2) (C8.pe_c cLPt hr (by decide) (by rfl) (pa_cons (pe_ix ix_str (pv 4) (pv 5) (fun _ _ => rfl)) (pa_cons (pe_ix ix_tup (pv 3) (pe_op op_add (pv 5) pe_int) (fun _ _ => rfl)) pa_nil)))))))))))
      (pss_one (ps_ret (pv 2))))), ?_⟩
    obtain ⟨a, xs, rfl, hq, hda⟩ := id hd.tup_inv
    cases hda with
    | cons hk r1 =>
      cases r1 with
      | cons hrs r2 =>
        cases r2
        obtain ⟨ak, ks, rfl, hqk, hdk⟩ := hk.tup_inv
        obtain rfl := hdk.strs_inv
        obtain ⟨ar, rs, rfl, hqr, hdr⟩ := hrs.tup_inv
        have lrs : rs.length = c.2.length := by rw [hdr.length, List.length_map]
        have hz0 : (cb c.1.length).length + (c.1.length + ((cb c.2.length).length + (c.2.flatMap encR).length)) ≤ 1000000 := by simpa only [enc, List.length_append] using hz
        have hl2 := flat_le1 (e := encR) (fun x => by show 1 ≤ (x.1 :: x.2.flatMap encP).length; rw [List.length_cons]; omega) c.2
        have bm : (1000000 : Nat) ≤ bigM := by decide +kernel
        -- the words
        refine ⟨rfl, fun H1 pd s1 npd h1 => ⟨pd, lkvs, rfl, h1, fun pw npw => ?_⟩⟩
        have npw0 : H pw = none := s1.free npw
        have s2 : Same H (upd H1 pw (.lst (lkvs.map fun kv => kV kv.1))) := s1.updAt npw0
        have hw2 : upd H1 pw (.lst (lkvs.map fun kv => kV kv.1)) pw = some (.lst (wds.map V.str)) := by rw [upd_same, lk_keys]
        generalize upd H1 pw (.lst (lkvs.map fun kv => kV kv.1)) = H2 at s2 hw2 ⊢
        -- the head of the bytes
        refine ⟨_, rfl, a, _, 0, _, rfl, rfl, s2.seqT hq, rfl, _, _, rfl, .inr (s2.seqT hqk), c.1.length, by rw [List.length_map]; rfl, Nat.le_trans (show c.1.length ≤ 1000000 by omega) bm, fun H3 p3 s3 n3 h3 => ?_⟩
        have t3 := s2.trans s3
        refine ⟨_, rfl, a, _, 0, _, rfl, rfl, t3.seqT hq, rfl, _, rfl, ⟨_, t3.seqT hqk⟩, fun D nD => ?_⟩
        refine lc_it walk_tup (fun j H' => Same H3 H' ∧ H' D = some (.lst (nats (c.1.take j)))) ⟨Same.upd nD, upd_same⟩ (fun j H' _ hp => hp.1.seqT (t3.seqT hqk)) ?_ ?_
        · rintro j x2 H4 H4' hj ⟨s4, h4⟩ ⟨rfl, hx⟩
          rw [List.getElem?_map] at hx
          obtain ⟨kk, hkk, rfl⟩ : ∃ kk, c.1[j]? = some kk ∧ V.str (kn kk) = x2 := by
            cases e : c.1[j]? with
            | none => rw [e] at hx; cases hx
            | some kk => rw [e] at hx; exact ⟨kk, rfl, Option.some.inj hx⟩
          have hk2 : kk < 2 := ht.1 kk (List.mem_of_getElem? hkk)
          have ek := kn_one kk hk2
          refine ⟨rfl, _, rfl, rfl, .inr ⟨decide (V.str (kn kk) = V.str "str"), rfl, ?_⟩⟩
          rw [ek]
          refine ⟨_, h4, smallLt (by rw [nats_length, List.length_take]; omega), s4.updAt nD, ?_⟩
          rw [upd_same, List.take_add_one, hkk, nats_app]
          rfl
        · rintro H4 ⟨s4, h4⟩
          rw [List.length_map, List.take_length] at h4
          refine ⟨p3, D, _, _, rfl, rfl, s4 _ _ h3, h4, small (by rw [nats_length, nats_length]; omega), fun p5 n5 => ?_⟩
          have t4 : Same H H4 := t3.trans s4
          have n50 : H p5 = none := t4.free n5
          have t5 : Same H (upd H4 p5 (.lst (nats (cb c.1.length) ++ nats c.1))) := t4.updAt n50
          refine ⟨_, rfl, a, _, 1, _, rfl, rfl, t5.seqT hq, rfl, _, _, rfl, .inr (t5.seqT hqr), c.2.length, by rw [lrs]; rfl, Nat.le_trans (show c.2.length ≤ 1000000 by omega) bm, fun H6 p6 s6 n6 h6 => ?_⟩
          have t6 : Same H H6 := t5.trans s6
          refine ⟨p5, p6, _, _, rfl, rfl, s6 _ _ upd_same, h6, small (by simp only [List.length_append, nats_length]; omega), fun p np => ?_⟩
          have np0 : H p = none := t6.free np
          have s8 := t6.updAt (o := .lst (nats (cb c.1.length) ++ nats c.1 ++ nats (cb c.2.length))) np0
          have hw6 : H6 pw = some (.lst (wds.map V.str)) := s6 _ _ (by rw [upd_ne (fun z => by have := s4 _ _ (s3 _ _ hw2); rw [z, n5] at this; cases this)]; exact s4 _ _ (s3 _ _ hw2))
          have hwp : pw ≠ p := fun z => by rw [z, np] at hw6; cases hw6
          -- the rows
          refine ⟨_, rfl, a, _, 1, _, rfl, rfl, s8.seqT hq, rfl, _, rfl, ⟨_, s8.seqT hqr⟩, ?_⟩
          refine for_tup (xs := rs) (fun i σ H' => ∃ (pf : Addr) (v3 v4 v5 : Option V), σ = [some (.ref a), some (.ref pw), some (.ref pf), v3, v4, v5, none] ∧ Same H H' ∧ H pf = none ∧ H' pw = some (.lst (wds.map V.str)) ∧ pw ≠ pf ∧ H' pf = some (.lst (nats (cb c.1.length ++ (c.1 ++ (cb c.2.length ++ (c.2.take i).flatMap encR))))))
            ⟨p, none, none, none, rfl, s8, np0, by rw [upd_ne hwp]; exact hw6, hwp, by rw [upd_same]; simp [nats_app]⟩ (fun i σ H' _ ⟨_, _, _, _, _, s9, _⟩ => s9.seqT hqr) ?_ ?_
          · rintro i y σ H7 hi ⟨pf, v3, v4, v5, rfl, s9, npf, hw9, nwf, h9⟩
            obtain ⟨d, hd1, hd2⟩ := hdr.get hi
            rw [List.getElem?_map] at hd1
            obtain ⟨row, hrow, rfl⟩ : ∃ row, c.2[i]? = some row ∧ datR row = d := by
              cases e : c.2[i]? with
              | none => rw [e] at hd1; cases hd1
              | some row => rw [e] at hd1; exact ⟨row, rfl, Option.some.inj hd1⟩
            have hmr := List.mem_of_getElem? hrow
            obtain ⟨hj32, hps, htp⟩ := ht.2 row hmr
            have hcr := hcn row hmr
            obtain ⟨j, ps⟩ := row
            have hle := congrArg List.length (K53.flat_at (e := encR) hrow)
            simp only [List.length_append, encR, List.length_cons] at hle
            obtain ⟨ay, ys, rfl, hqy, hdy⟩ := hd2.tup_inv
            cases hdy with
            | cons hw hpd =>
              rename_i yv yr
              obtain rfl := hw.str_inv
              have ll := lsr_len j
              have h4 := srt_le j
              refine ⟨rfl, fun H8 p8 s10 n8 h8 => ?_⟩
              have s11 := s9.trans s10
              refine ⟨_, rfl, ay, _, 0, _, rfl, rfl, s11.seqT hqy, at_of (j := 0) rfl rfl, p8, .str (lsr j), rfl, .inl ⟨_, .inr (wd j), .inl h8, rfl, lk_get j hj32⟩, ?_⟩
              have h9' := s10 _ _ h9
              have hw10 := s10 _ _ hw9
              refine ⟨_, rfl, .inl ⟨rfl, _, SqL.of h9'⟩, _, rfl, .inl ⟨rfl, _, SqL.of hw10⟩, _, rfl, ay, _, 0, _, rfl, rfl, s11.seqT hqy, at_of (j := 0) rfl rfl, ?_⟩
              refine ⟨pw, _, .str (wd j), j, .str (wd j), rfl, rfl, SqL.of hw10, rfl, flat_strs' _, idx_here (wd_here hj32), idx_eq _, idx_no (wd_first j hj32), ?_⟩
              refine ⟨pf, _, _, rfl, rfl, h9', smallLt (by simp only [List.length_append, nats_length]; omega), ?_⟩
              have s12 := s11.updAt (o := .lst (nats (cb c.1.length ++ (c.1 ++ (cb c.2.length ++ (c.2.take i).flatMap encR))) ++ [V.int (j : Int)])) npf
              refine ⟨_, rfl, _, rfl, by rw [ll]; exact small (by omega), (((srt j).length : Nat) : Int), by rw [ll], by omega, by omega, ?_⟩
              refine for_range (n := (srt j).length) (fun q σ H' => ∃ (pg : Addr) (v5 : Option V), σ = [some (.ref a), some (.ref pw), some (.ref pg), some (.ref ay), some (.str (lsr j)), v5, none] ∧ Same H H' ∧ H pg = none ∧ H' pw = some (.lst (wds.map V.str)) ∧ pw ≠ pg ∧ H' pg = some (.lst (nats (cb c.1.length ++ (c.1 ++ (cb c.2.length ++ ((c.2.take i).flatMap encR ++ (j :: (ps.take q).flatMap encP))))))))
                ⟨pf, v5, rfl, s12, npf, by rw [upd_ne nwf]; exact hw10, nwf, by rw [upd_same]; simp [nats_app, nats_app', show nats [] = [] from rfl]⟩ ?_ ?_
              · rintro q σ H9 hq4 ⟨pg, v5', rfl, s13, npg, hw13, nwg, h13⟩
                have hps' : ps.length = (srt j).length := hps
                have hqlt : q < ps.length := by omega
                have hpq : ps[q]? = some ps[q] := by simp [hqlt]
                obtain ⟨sv, hsv, hsd⟩ := hpd.getD (i := q) (d := datP ps[q]) (by rw [List.getElem?_map, hpq]; rfl)
                have hsrt : (srt j)[q]? = some ((srt j).getD q .d) := by
                  rw [List.getD_eq_getElem?_getD, List.getElem?_eq_getElem hq4]
                  rfl
                have e0 : (0 : Int) + (q : Int) = (q : Int) := by omega
                have hlp := congrArg List.length (K53.flat_at (e := encP) hpq)
                simp only [List.length_append] at hlp
                refine ⟨_, rfl, _, rfl, _, rfl, _, _, lc ((srt j).getD q .d), rfl, rfl, by rw [ll]; exact small (by omega), atN_of (j := q) e0 (lsr_at hsrt), _, rfl, _, rfl, _, _, rfl, rfl, ay, _, _, sv, rfl, rfl, s13.seqT hqy, at_of (j := q + 1) (by omega) (by simpa using hsv), _, sv, ps[q], rfl, htp q _ hpq, hcr _ (List.mem_of_getElem? hpq), hsd.mono s13, by omega, fun H10 p10 s14 n10 h10 => ?_⟩
                refine ⟨pg, p10, _, _, rfl, rfl, s14 _ _ h13, h10, small (by simp only [List.length_append, nats_length, List.length_cons]; omega), fun p11 n11 => ?_⟩
                have t14 := s13.trans s14
                have hw14 := s14 _ _ hw13
                have nw11 : pw ≠ p11 := fun z => by rw [z, n11] at hw14; cases hw14
                refine ⟨p11, _, rfl, t14.updAt (t14.free n11), t14.free n11, by rw [upd_ne nw11]; exact hw14, nw11, ?_⟩
                rw [upd_same, ← nats_app, K53.flat_take hpq]
                simp only [List.append_assoc, List.cons_append]
              · rintro σ H9 ⟨pg, v5', rfl, s13, npg, hw13, nwg, h13⟩
                have hps' : ps.length = (srt j).length := hps
                refine ⟨pg, _, _, _, rfl, s13, npg, hw13, nwg, ?_⟩
                rw [h13, ← hps', List.take_length, K53.flat_take hrow]
                rfl
          · rintro σ H7 ⟨pf, v3, v4, v5, rfl, s9, npf, hw9, nwf, h9⟩
            rw [lrs, List.take_length] at h9
            exact ⟨_, rfl, k _ pf s9 npf h9⟩
end
end L2.KR

namespace L2.KR
open PySem PySem.Spec PyProof.Rows K53
/-! ### _law_other -/
theorem cut_drop (l : List Nat) (n : Nat) : cutV (nats l) (some ((n : Nat) : Int)) none = nats (l.drop n) := by
  unfold cutV
  rw [HT.sIx_none, HT.sIx_nat, nats_length]
  unfold nats
  rw [List.map_drop]
  by_cases h : n ≤ l.length
  · rw [Nat.min_eq_left h]
    exact List.take_of_length_le (by rw [List.length_drop, List.length_map]; exact Nat.le_refl _)
  · rw [Nat.min_eq_right (by omega), Nat.sub_self]
    rw [List.take_zero]
    exact (List.drop_eq_nil_of_le (by rw [List.length_map]; omega)).symm
theorem b8_app {l m : List Nat} (h1 : K53.B8 l) (h2 : K53.B8 m) : K53.B8 (l ++ m) := fun b hb => (List.mem_append.mp hb).elim (h1 b) (h2 b)
theorem b8_take {l : List Nat} {n : Nat} (h : K53.B8 l) : K53.B8 (l.take n) := fun b hb => h b (List.mem_of_mem_take hb)
theorem b8_drop {l : List Nat} {n : Nat} (h : K53.B8 l) : K53.B8 (l.drop n) := fun b hb => h b (List.mem_of_mem_drop hb)
theorem b8_one {b : Nat} (h : b < 256) : K53.B8 [b] := fun x hx => by simp at hx; omega
/-- what a row of bytes near R may be -/
def Near (R' : List Nat) : Prop := R'.length ≤ 3000 ∧ K53.B8 R' ∧ RunB 19 R'
def spLO (K : PySem.W.Frag) : Sp := fun vs H Q _ => ∃ d r ds ra, ∃ R : List Nat, vs = [.ref d, .ref ra] ∧ Dr d r ds H ∧ H ra = some (.lst (nats R)) ∧ R.length ≤ 2100 ∧ K53.B8 R ∧ RunB 9 R ∧ ∀ (R' : List Nat) p H', Gs K d r ds H H' → H' p = some (.lst (nats R')) → Near R' → Q (.ref p) H'
abbrev sLO : Stmt := top 54
section
variable {P : Program} {w : World} {K : PySem.W.Frag} {mg : Str → Option Value} {base : Heap}
theorem scLO : FnScope ["_law_d", "_law_row_here", "_law_turn", "_law_at", "_law_byte", "_law_k"] ["_law_d", "_law_row_here"] (defScope sLO) := ⟨rfl, rfl, rfl, by decide +kernel, rfl, by decide +kernel, by decide +kernel⟩
theorem ok_lo {f : Addr} {fd : FuncData} (F : Fun K "_law_other" "_law_other" sLO f fd) (T : Txt w K mg) (cLT : C8.Cal P w K mg base 1 "_law_take" (spDr K vTake) []) : FnOk P w K mg base CX0 2 f fd ["_law_d", "_law_row_here"] (spLO K) := by
  refine F.ok scLO (fun vs H Q E h => ?_) (fun cdv A outer s0 H vs Q E hr h => ?_)
  · obtain ⟨d, r, ds, ra, R, rfl, _⟩ := h
    rfl
  · obtain ⟨d, r, ds, ra, R, rfl, hd, hR, hlen, h8, hrun, k⟩ := h
    refine ⟨_, pss_cons (ps_set (i := 2) scLO.nd rfl (Or.inl rfl) (pe_op op_mod (C8.pe_c cLT hr (by decide) (by rfl) (pa_cons (pv 0) pa_nil)) pe_int))
      (pss_cons (ps_set (i := 3) scLO.nd rfl (Or.inl rfl) (pe_op op_mod (C8.pe_c cLT hr (by decide) (by rfl) (pa_cons (pv 0) pa_nil)) (pe_op op_add (pe_callB call_len_seq (by rfl) T.len PySem.boot_len (pa_cons (pv 1) pa_nil)) pe_int)))
      (pss_cons (ps_set (i := 4) scLO.nd rfl (Or.inl rfl) (pe_ix ix_list (pe_lst (pa_cons pe_int (pa_cons pe_int (pa_cons pe_int (pa_cons pe_int (pa_cons pe_int (pa_cons pe_int (pa_cons pe_int (pa_cons pe_int (pa_cons pe_int (pa_cons pe_int (pa_cons (pe_op op_mod (C8.pe_c cLT hr (by decide) (by rfl) (pa_cons (pv 0) pa_nil)) pe_int) pa_nil)))))))))))) (pe_op op_mod (C8.pe_c cLT hr (by decide) (by rfl) (pa_cons (pv 0) pa_nil)) pe_int) (fun _ _ => rfl)))
      (pss_cons (ps_if (PW.pt (pw_and (pt_cmpR op_lt (pv 2) pe_int (nomark _)) (pw_and1 (pt_cmpR op_lt (pv 3) (pe_callB call_len_seq (by rfl) T.len PySem.boot_len (pa_cons (pv 1) pa_nil)) (nomark _)))))
        (pss_one (ps_ret (pe_op op_cat (pe_op op_cat (pe_slice sl_list (pv 1) po_none (po_some (pv 3))) (pe_lst (pa_cons (pv 4) pa_nil))) (pe_slice sl_list (pv 1) (po_some (pe_op op_add (pv 3) pe_int)) po_none)))) pss_nil)
      (pss_cons (ps_if (pt_cmpR op_eq (pv 2) pe_int (nomark _)) (pss_one (ps_ret (pe_op op_cat (pe_slice sl_list (pv 1) po_none (po_some (pv 3))) (pe_slice sl_list (pv 1) (po_some (pe_op op_add (pv 3) pe_int)) po_none)))) pss_nil)
      (pss_cons (ps_if (pt_cmpR op_eq (pv 2) pe_int (nomark _)) (pss_one (ps_ret (pe_op op_cat (pe_op op_cat (pe_slice sl_list (pv 1) po_none (po_some (pv 3))) (pe_lst (pa_cons (pv 4) pa_nil))) (pe_slice sl_list (pv 1) (po_some (pv 3)) po_none)))) pss_nil)
      (pss_cons (ps_if (pt_cmpR op_eq (pv 2) pe_int (nomark _)) (pss_one (ps_ret (pe_slice sl_list (pv 1) po_none (po_some (pv 3))))) pss_nil)
      (pss_one (ps_ret (pe_op op_cat (pe_lst (pa_cons (pv 4) pa_nil))
        (pe_lc (own := [("_law_k", 5)]) (g := gName 5) (tt := tYes) rfl scLO.nd (pi_range1 (by rfl) T.range (pa_cons (pe_op op_mod (C8.pe_c cLT hr (by decide) (by rfl) (pa_cons (pv 0) pa_nil)) pe_int) pa_nil)) (blkOk_by (N := ["_law_d", "_law_row_here", "_law_turn", "_law_at", "_law_byte", "_law_k"]) (sc := defScope sLO) (by decide +kernel))
          (fun _ _ _ _ _ => pg_name (i := 5) scLO.nd rfl (Or.inl rfl)) (fun _ _ _ _ _ => pts_nil) (fun _ _ _ _ _ => pe_op op_mod (C8.pe_c cLT hr (by decide) (by rfl) (pa_cons (pv 0) pa_nil)) pe_int))))))))))), ?_⟩
    have nrd : ra ≠ d := hd.ne0 hR
    -- the draws
    refine ⟨_, rfl, d, r, ds, rfl, hd, fun v dt H1 hv d1 b1 hd1 => ?_⟩
    have g1 : Gs K d r ds H H1 := (Gs.refl hd).but b1 hd1
    obtain ⟨x1, rfl⟩ := hv
    obtain rfl := d1.int_inv
    have hR1 := b1 _ _ nrd hR
    refine ⟨_, _, rfl, rfl, by show (0 : Int) < 6; decide, ?_⟩
    refine ⟨_, rfl, d, r, ds, rfl, hd1, fun v dt H2 hv d2 b2 hd2 => ?_⟩
    have g2 := g1.but b2 hd2
    obtain ⟨x2, rfl⟩ := hv
    obtain rfl := d2.int_inv
    have hR2 := b2 _ _ nrd hR1
    have eat : (x2 : Int) % ((((nats R).length : Nat) : Int) + 1) = ((x2 % (R.length + 1) : Nat) : Int) := by
      rw [nats_length, Int.natCast_emod]
      rfl
    have hat : x2 % (R.length + 1) < R.length + 1 := lt_mod (by omega)
    refine ⟨_, rfl, ra, _, rfl, .inl (SqL.of hR2), _, _, rfl, rfl, _, _, rfl, rfl, by show (0 : Int) < (((nats R).length : Nat) : Int) + 1; omega, ?_⟩
    refine ⟨_, rfl, d, r, ds, rfl, hd2, fun v dt H3 hv d3 b3 hd3 => ?_⟩
    have g3 := g2.but b3 hd3
    obtain ⟨x3, rfl⟩ := hv
    obtain rfl := d3.int_inv
    have hR3 := b3 _ _ nrd hR2
    refine ⟨_, _, rfl, rfl, by show (0 : Int) < 256; decide, by show 11 ≤ sizeLine; decide, fun p4 np4 => ?_⟩
    have s4 : Same H3 (upd H3 p4 (.lst [.int 0, .int 1, .int 2, .int 7, .int 8, .int 31, .int 32, .int 127, .int 128, .int 255, .int ((x3 : Int) % 256)])) := Same.upd np4
    have l4 : upd H3 p4 (.lst [.int 0, .int 1, .int 2, .int 7, .int 8, .int 31, .int 32, .int 127, .int 128, .int 255, .int ((x3 : Int) % 256)]) p4 = some (.lst (nats [0, 1, 2, 7, 8, 31, 32, 127, 128, 255, x3 % 256])) := by
      rw [upd_same]
      have e : (x3 : Int) % 256 = ((x3 % 256 : Nat) : Int) := by omega
      rw [e]
      rfl
    generalize upd H3 p4 (.lst [.int 0, .int 1, .int 2, .int 7, .int 8, .int 31, .int 32, .int 127, .int 128, .int 255, .int ((x3 : Int) % 256)]) = H4 at s4 l4 ⊢
    have g4 := g3.same s4
    have hR4 := s4 _ _ hR3
    refine ⟨_, rfl, d, r, ds, rfl, g4.dr, fun v dt H5 hv d5 b5 hd5 => ?_⟩
    have g5 := g4.but b5 hd5
    obtain ⟨x5, rfl⟩ := hv
    obtain rfl := d5.int_inv
    have hR5 := b5 _ _ nrd hR4
    have l5 := b5 _ _ (g4.dr.ne0 l4) l4
    have hlt : x5 % 11 < ([0, 1, 2, 7, 8, 31, 32, 127, 128, 255, x3 % 256] : List Nat).length := lt_mod (by decide)
    obtain ⟨b, hb⟩ : ∃ b, ([0, 1, 2, 7, 8, 31, 32, 127, 128, 255, x3 % 256] : List Nat)[x5 % 11]? = some b := ⟨_, List.getElem?_eq_getElem hlt⟩
    have hb256 : b < 256 := by
      have hm := List.mem_of_getElem? hb
      simp only [List.mem_cons, List.not_mem_nil, or_false] at hm
      omega
    refine ⟨_, _, rfl, rfl, by show (0 : Int) < 11; decide, p4, _, _, .int ((b : Nat) : Int), rfl, rfl, SqL.of l5, at_of (j := x5 % 11) (by show (x5 : Int) % 11 = _; omega) (nats_at hb), ?_⟩
    have e6 : (0 : Int) ≤ (x1 : Int) % 6 ∧ (x1 : Int) % 6 < 6 := by omega
    generalize hq : (x2 % (R.length + 1)) = q at eat hat
    -- the ends
    have sl1 : ∀ (H' : Hp), H' ra = some (.lst (nats R)) → ∀ p, H' p = none → upd H' p (.lst (cutV (nats R) none (some ((x2 : Int) % ((((nats R).length : Nat) : Int) + 1))))) p = some (.lst (nats (R.take q))) := fun H' _ p _ => by
      rw [upd_same, eat, cut_take R q (by omega)]
    have sl2 : ∀ (H' : Hp) p, upd H' p (.lst (cutV (nats R) (some ((x2 : Int) % ((((nats R).length : Nat) : Int) + 1) + 1)) none)) p = some (.lst (nats (R.drop (q + 1)))) := fun H' p => by
      rw [upd_same, eat]
      exact congrArg (fun z => some (HO.lst z)) (cut_drop R (q + 1))
    have sl3 : ∀ (H' : Hp) p, upd H' p (.lst (cutV (nats R) (some ((x2 : Int) % ((((nats R).length : Nat) : Int) + 1))) none)) p = some (.lst (nats (R.drop q))) := fun H' p => by
      rw [upd_same, eat]
      exact congrArg (fun z => some (HO.lst z)) (cut_drop R q)
    by_cases c1 : (x1 : Int) % 6 < 2
    · by_cases cq : q < R.length
      · refine ⟨_, rfl, _, _, rfl, rfl, true, congrArg V.bl (decide_eq_true c1), ⟨_, rfl, _, rfl, ra, _, rfl, .inl (SqL.of hR5), _, _, rfl, rfl, true, ?_, ?_⟩⟩
        · show V.bl (decide (((x2 : Int) % ((((nats R).length : Nat) : Int) + 1)) < (((nats R).length : Nat) : Int))) = V.bl true
          rw [eat, nats_length, decide_eq_true (by omega)]
        refine ⟨_, rfl, _, rfl, _, rfl, ra, _, rfl, SqL.of hR5, fun p6 np6 => ?_⟩
        have s6 : Same H5 (upd H5 p6 (.lst (cutV (nats R) none (some ((x2 : Int) % ((((nats R).length : Nat) : Int) + 1)))))) := Same.upd np6
        have l6 : (upd H5 p6 (.lst (cutV (nats R) none (some ((x2 : Int) % ((((nats R).length : Nat) : Int) + 1)))))) p6 = some (.lst (nats (R.take q))) := sl1 H5 hR5 p6 np6
        generalize upd H5 p6 (.lst (cutV (nats R) none (some ((x2 : Int) % ((((nats R).length : Nat) : Int) + 1))))) = H6 at s6 l6 ⊢
        have g6 := g5.same s6
        have hR6 := s6 _ _ hR5
        refine ⟨_, rfl, by show 1 ≤ sizeLine; decide, fun p7 np7 => ?_⟩
        have s7 : Same H6 (upd H6 p7 (.lst [.int ((b : Nat) : Int)])) := Same.upd np7
        have l7 : (upd H6 p7 (.lst [.int ((b : Nat) : Int)])) p7 = some (.lst (nats [b])) := upd_same
        generalize upd H6 p7 (.lst [.int ((b : Nat) : Int)]) = H7 at s7 l7 ⊢
        have g7 := g6.same s7
        have hR7 := s7 _ _ hR6
        replace l6 := s7 _ _ l6
        refine ⟨p6, p7, _, _, rfl, rfl, l6, l7, small (by simp only [nats_length, List.length_append, List.length_take, List.length_drop, List.length_cons, List.length_nil]; omega), fun p8 np8 => ?_⟩
        have s8 : Same H7 (upd H7 p8 (.lst (nats (R.take q) ++ nats ([b])))) := Same.upd np8
        have l8 : (upd H7 p8 (.lst (nats (R.take q) ++ nats ([b])))) p8 = some (.lst (nats ((R.take q) ++ ([b])))) := by rw [upd_same]; exact congrArg (fun z => some (HO.lst z)) (nats_app _ _).symm
        generalize upd H7 p8 (.lst (nats (R.take q) ++ nats ([b]))) = H8 at s8 l8 ⊢
        have g8 := g7.same s8
        have hR8 := s8 _ _ hR7
        refine ⟨_, rfl, _, rfl, _, _, rfl, rfl, _, rfl, ra, _, rfl, SqL.of hR8, fun p9 np9 => ?_⟩
        have s9 : Same H8 (upd H8 p9 (.lst (cutV (nats R) (some (((x2 : Int) % ((((nats R).length : Nat) : Int) + 1)) + 1)) none))) := Same.upd np9
        have l9 : (upd H8 p9 (.lst (cutV (nats R) (some (((x2 : Int) % ((((nats R).length : Nat) : Int) + 1)) + 1)) none))) p9 = some (.lst (nats (R.drop (q + 1)))) := sl2 H8 p9
        generalize upd H8 p9 (.lst (cutV (nats R) (some (((x2 : Int) % ((((nats R).length : Nat) : Int) + 1)) + 1)) none)) = H9 at s9 l9 ⊢
        have g9 := g8.same s9
        have hR9 := s9 _ _ hR8
        replace l8 := s9 _ _ l8
        refine ⟨p8, p9, _, _, rfl, rfl, l8, l9, small (by simp only [nats_length, List.length_append, List.length_take, List.length_drop, List.length_cons, List.length_nil]; omega), fun p10 np10 => ?_⟩
        have s10 : Same H9 (upd H9 p10 (.lst (nats ((R.take q) ++ ([b])) ++ nats (R.drop (q + 1))))) := Same.upd np10
        have l10 : (upd H9 p10 (.lst (nats ((R.take q) ++ ([b])) ++ nats (R.drop (q + 1))))) p10 = some (.lst (nats (((R.take q) ++ ([b])) ++ (R.drop (q + 1))))) := by rw [upd_same]; exact congrArg (fun z => some (HO.lst z)) (nats_app _ _).symm
        generalize upd H9 p10 (.lst (nats ((R.take q) ++ ([b])) ++ nats (R.drop (q + 1)))) = H10 at s10 l10 ⊢
        have g10 := g9.same s10
        have hR10 := s10 _ _ hR9
        exact k _ p10 H10 g10 l10 ⟨by simp only [List.length_append, List.length_take, List.length_drop, List.length_cons, List.length_nil]; omega, b8_app (b8_app (b8_take h8) (b8_one hb256)) (b8_drop h8), (by rw [List.append_assoc]; exact (run_mid (x := [b]) hrun).mono (by show 9 + (1 + 9) ≤ 19; decide))⟩
      · refine ⟨_, rfl, _, _, rfl, rfl, true, congrArg V.bl (decide_eq_true c1), ⟨_, rfl, _, rfl, ra, _, rfl, .inl (SqL.of hR5), _, _, rfl, rfl, false, ?_, ?_⟩⟩
        · show V.bl (decide (((x2 : Int) % ((((nats R).length : Nat) : Int) + 1)) < (((nats R).length : Nat) : Int))) = V.bl false
          rw [eat, nats_length, decide_eq_false (by omega)]
        refine ⟨_, rfl, rfl, _, rfl, ?_⟩
        by_cases c2 : (x1 : Int) % 6 = 2
        · refine ifT (decide_eq_true (congrArg V.int c2)) ?_
          refine ⟨_, rfl, _, rfl, _, rfl, ra, _, rfl, SqL.of hR5, fun p6 np6 => ?_⟩
          have s6 : Same H5 (upd H5 p6 (.lst (cutV (nats R) none (some ((x2 : Int) % ((((nats R).length : Nat) : Int) + 1)))))) := Same.upd np6
          have l6 : (upd H5 p6 (.lst (cutV (nats R) none (some ((x2 : Int) % ((((nats R).length : Nat) : Int) + 1)))))) p6 = some (.lst (nats (R.take q))) := sl1 H5 hR5 p6 np6
          generalize upd H5 p6 (.lst (cutV (nats R) none (some ((x2 : Int) % ((((nats R).length : Nat) : Int) + 1))))) = H6 at s6 l6 ⊢
          have g6 := g5.same s6
          have hR6 := s6 _ _ hR5
          refine ⟨_, rfl, _, rfl, _, _, rfl, rfl, _, rfl, ra, _, rfl, SqL.of hR6, fun p7 np7 => ?_⟩
          have s7 : Same H6 (upd H6 p7 (.lst (cutV (nats R) (some (((x2 : Int) % ((((nats R).length : Nat) : Int) + 1)) + 1)) none))) := Same.upd np7
          have l7 : (upd H6 p7 (.lst (cutV (nats R) (some (((x2 : Int) % ((((nats R).length : Nat) : Int) + 1)) + 1)) none))) p7 = some (.lst (nats (R.drop (q + 1)))) := sl2 H6 p7
          generalize upd H6 p7 (.lst (cutV (nats R) (some (((x2 : Int) % ((((nats R).length : Nat) : Int) + 1)) + 1)) none)) = H7 at s7 l7 ⊢
          have g7 := g6.same s7
          have hR7 := s7 _ _ hR6
          replace l6 := s7 _ _ l6
          refine ⟨p6, p7, _, _, rfl, rfl, l6, l7, small (by simp only [nats_length, List.length_append, List.length_take, List.length_drop, List.length_cons, List.length_nil]; omega), fun p8 np8 => ?_⟩
          have s8 : Same H7 (upd H7 p8 (.lst (nats (R.take q) ++ nats (R.drop (q + 1))))) := Same.upd np8
          have l8 : (upd H7 p8 (.lst (nats (R.take q) ++ nats (R.drop (q + 1))))) p8 = some (.lst (nats ((R.take q) ++ (R.drop (q + 1))))) := by rw [upd_same]; exact congrArg (fun z => some (HO.lst z)) (nats_app _ _).symm
          generalize upd H7 p8 (.lst (nats (R.take q) ++ nats (R.drop (q + 1)))) = H8 at s8 l8 ⊢
          have g8 := g7.same s8
          have hR8 := s8 _ _ hR7
          exact k _ p8 H8 g8 l8 ⟨by simp only [List.length_append, List.length_take, List.length_drop]; omega, b8_app (b8_take h8) (b8_drop h8), ((run_mid (x := []) hrun).mono (by show 9 + (0 + 9) ≤ 19; decide))⟩
        refine ifF (decide_eq_false (fun z => c2 (V.int.inj z))) ?_
        refine ⟨_, rfl, rfl, _, rfl, ?_⟩
        by_cases c3 : (x1 : Int) % 6 = 3
        · refine ifT (decide_eq_true (congrArg V.int c3)) ?_
          refine ⟨_, rfl, _, rfl, _, rfl, ra, _, rfl, SqL.of hR5, fun p6 np6 => ?_⟩
          have s6 : Same H5 (upd H5 p6 (.lst (cutV (nats R) none (some ((x2 : Int) % ((((nats R).length : Nat) : Int) + 1)))))) := Same.upd np6
          have l6 : (upd H5 p6 (.lst (cutV (nats R) none (some ((x2 : Int) % ((((nats R).length : Nat) : Int) + 1)))))) p6 = some (.lst (nats (R.take q))) := sl1 H5 hR5 p6 np6
          generalize upd H5 p6 (.lst (cutV (nats R) none (some ((x2 : Int) % ((((nats R).length : Nat) : Int) + 1))))) = H6 at s6 l6 ⊢
          have g6 := g5.same s6
          have hR6 := s6 _ _ hR5
          refine ⟨_, rfl, by show 1 ≤ sizeLine; decide, fun p7 np7 => ?_⟩
          have s7 : Same H6 (upd H6 p7 (.lst [.int ((b : Nat) : Int)])) := Same.upd np7
          have l7 : (upd H6 p7 (.lst [.int ((b : Nat) : Int)])) p7 = some (.lst (nats [b])) := upd_same
          generalize upd H6 p7 (.lst [.int ((b : Nat) : Int)]) = H7 at s7 l7 ⊢
          have g7 := g6.same s7
          have hR7 := s7 _ _ hR6
          replace l6 := s7 _ _ l6
          refine ⟨p6, p7, _, _, rfl, rfl, l6, l7, small (by simp only [nats_length, List.length_append, List.length_take, List.length_drop, List.length_cons, List.length_nil]; omega), fun p8 np8 => ?_⟩
          have s8 : Same H7 (upd H7 p8 (.lst (nats (R.take q) ++ nats ([b])))) := Same.upd np8
          have l8 : (upd H7 p8 (.lst (nats (R.take q) ++ nats ([b])))) p8 = some (.lst (nats ((R.take q) ++ ([b])))) := by rw [upd_same]; exact congrArg (fun z => some (HO.lst z)) (nats_app _ _).symm
          generalize upd H7 p8 (.lst (nats (R.take q) ++ nats ([b]))) = H8 at s8 l8 ⊢
          have g8 := g7.same s8
          have hR8 := s8 _ _ hR7
          refine ⟨_, rfl, _, rfl, _, rfl, ra, _, rfl, SqL.of hR8, fun p9 np9 => ?_⟩
          have s9 : Same H8 (upd H8 p9 (.lst (cutV (nats R) (some ((x2 : Int) % ((((nats R).length : Nat) : Int) + 1))) none))) := Same.upd np9
          have l9 : (upd H8 p9 (.lst (cutV (nats R) (some ((x2 : Int) % ((((nats R).length : Nat) : Int) + 1))) none))) p9 = some (.lst (nats (R.drop q))) := sl3 H8 p9
          generalize upd H8 p9 (.lst (cutV (nats R) (some ((x2 : Int) % ((((nats R).length : Nat) : Int) + 1))) none)) = H9 at s9 l9 ⊢
          have g9 := g8.same s9
          have hR9 := s9 _ _ hR8
          replace l8 := s9 _ _ l8
          refine ⟨p8, p9, _, _, rfl, rfl, l8, l9, small (by simp only [nats_length, List.length_append, List.length_take, List.length_drop, List.length_cons, List.length_nil]; omega), fun p10 np10 => ?_⟩
          have s10 : Same H9 (upd H9 p10 (.lst (nats ((R.take q) ++ ([b])) ++ nats (R.drop q)))) := Same.upd np10
          have l10 : (upd H9 p10 (.lst (nats ((R.take q) ++ ([b])) ++ nats (R.drop q)))) p10 = some (.lst (nats (((R.take q) ++ ([b])) ++ (R.drop q)))) := by rw [upd_same]; exact congrArg (fun z => some (HO.lst z)) (nats_app _ _).symm
          generalize upd H9 p10 (.lst (nats ((R.take q) ++ ([b])) ++ nats (R.drop q))) = H10 at s10 l10 ⊢
          have g10 := g9.same s10
          have hR10 := s10 _ _ hR9
          exact k _ p10 H10 g10 l10 ⟨by simp only [List.length_append, List.length_take, List.length_drop, List.length_cons, List.length_nil]; omega, b8_app (b8_app (b8_take h8) (b8_one hb256)) (b8_drop h8), (by rw [List.append_assoc]; exact (run_mid (x := [b]) hrun).mono (by show 9 + (1 + 9) ≤ 19; decide))⟩
        refine ifF (decide_eq_false (fun z => c3 (V.int.inj z))) ?_
        refine ⟨_, rfl, rfl, _, rfl, ?_⟩
        by_cases c4 : (x1 : Int) % 6 = 4
        · refine ifT (decide_eq_true (congrArg V.int c4)) ?_
          refine ⟨_, rfl, _, rfl, _, rfl, ra, _, rfl, SqL.of hR5, fun p6 np6 => ?_⟩
          have s6 : Same H5 (upd H5 p6 (.lst (cutV (nats R) none (some ((x2 : Int) % ((((nats R).length : Nat) : Int) + 1)))))) := Same.upd np6
          have l6 : (upd H5 p6 (.lst (cutV (nats R) none (some ((x2 : Int) % ((((nats R).length : Nat) : Int) + 1)))))) p6 = some (.lst (nats (R.take q))) := sl1 H5 hR5 p6 np6
          generalize upd H5 p6 (.lst (cutV (nats R) none (some ((x2 : Int) % ((((nats R).length : Nat) : Int) + 1))))) = H6 at s6 l6 ⊢
          have g6 := g5.same s6
          have hR6 := s6 _ _ hR5
          exact k _ p6 H6 g6 l6 ⟨by simp only [List.length_take]; omega, b8_take h8, (run_take hrun).mono (by decide)⟩
        refine ifF (decide_eq_false (fun z => c4 (V.int.inj z))) ?_
        refine ⟨_, rfl, by show 1 ≤ sizeLine; decide, fun p6 np6 => ?_⟩
        have s6 : Same H5 (upd H5 p6 (.lst [.int ((b : Nat) : Int)])) := Same.upd np6
        have l6 : upd H5 p6 (.lst [.int ((b : Nat) : Int)]) p6 = some (.lst (nats [b])) := upd_same
        generalize upd H5 p6 (.lst [.int ((b : Nat) : Int)]) = H6 at s6 l6 ⊢
        have g6 := g5.same s6
        refine ⟨_, rfl, d, r, ds, rfl, g6.dr, fun v dt H7 hv d7 b7 hd7 => ?_⟩
        have l7 := b7 _ _ (g6.dr.ne0 l6) l6
        have g7 := g6.but b7 hd7
        obtain ⟨x7, rfl⟩ := hv
        obtain rfl := d7.int_inv
        have e7 : (x7 : Int) % 7 = ((x7 % 7 : Nat) : Int) := by omega
        refine ⟨_, _, rfl, rfl, by show (0 : Int) < 7; decide, ((x7 % 7 : Nat) : Int), congrArg (fun z => [V.int z]) e7, by omega, by omega, fun D nD => ?_⟩
        refine lc_it walk_range (fun j H' => ∃ ys : List Nat, ys.length = j ∧ (∀ y ∈ ys, y < 33) ∧ Gs K d r ds H7 H' ∧ H' D = some (.lst (nats ys)) ∧ H' p6 = some (.lst (nats [b]))) ⟨[], rfl, by simp, (Gs.refl hd7).same (Same.upd nD), upd_same, Same.upd nD _ _ l7⟩ (fun _ _ _ _ => trivial) ?_ ?_
        · rintro j x H8' H8 hj ⟨ys, hl, hy, g8, h8D, h8p⟩ ⟨rfl, rfl⟩
          refine ⟨rfl, _, rfl, d, r, ds, rfl, g8.dr, fun v dt H9 hv d9 b9 hd9 => ?_⟩
          have g9 := g8.but b9 hd9
          obtain ⟨x9, rfl⟩ := hv
          obtain rfl := d9.int_inv
          have h9D : H9 D = some (.lst (nats ys)) := b9 _ _ (hd7.ne nD) h8D
          have h9p := b9 _ _ (g8.dr.ne0 h8p) h8p
          have npD : p6 ≠ D := fun z => by rw [z, nD] at l7; cases l7
          refine ⟨_, _, rfl, rfl, by show (0 : Int) < 33; decide, _, h9D, smallLt (by rw [nats_length]; omega), ys ++ [x9 % 33], by rw [List.length_append, hl]; rfl, ?_, g9.store hd7 nD h9D, ?_, by rw [upd_ne npD]; exact h9p⟩
          · intro y hy'
            rcases List.mem_append.mp hy' with hy' | hy'
            · exact hy y hy'
            · simp at hy'
              omega
          · rw [upd_same, nats_app]
            rfl
        · rintro H8 ⟨ys, hl, hy, g8, h8D, h8p⟩
          have hl' : ys.length ≤ 6 := by omega
          refine ⟨p6, D, _, _, rfl, rfl, h8p, h8D, small (by simp only [nats_length, List.length_cons, List.length_nil]; omega), fun p9 np9 => ?_⟩
          refine k ([b] ++ ys) p9 _ ((g7.trans g8).same (Same.upd np9)) (by rw [upd_same, nats_app]) ⟨by simp only [List.length_append, List.length_cons, List.length_nil]; omega, b8_app (b8_one hb256) (fun y h => by have := hy y h; omega), (run_length (l := [b] ++ ys)).mono (by simp only [List.length_append, List.length_cons, List.length_nil]; omega)⟩
    · refine ⟨_, rfl, _, _, rfl, rfl, false, congrArg V.bl (decide_eq_false c1), ?_⟩
      refine ⟨_, rfl, rfl, _, rfl, ?_⟩
      by_cases c2 : (x1 : Int) % 6 = 2
      · refine ifT (decide_eq_true (congrArg V.int c2)) ?_
        refine ⟨_, rfl, _, rfl, _, rfl, ra, _, rfl, SqL.of hR5, fun p6 np6 => ?_⟩
        have s6 : Same H5 (upd H5 p6 (.lst (cutV (nats R) none (some ((x2 : Int) % ((((nats R).length : Nat) : Int) + 1)))))) := Same.upd np6
        have l6 : (upd H5 p6 (.lst (cutV (nats R) none (some ((x2 : Int) % ((((nats R).length : Nat) : Int) + 1)))))) p6 = some (.lst (nats (R.take q))) := sl1 H5 hR5 p6 np6
        generalize upd H5 p6 (.lst (cutV (nats R) none (some ((x2 : Int) % ((((nats R).length : Nat) : Int) + 1))))) = H6 at s6 l6 ⊢
        have g6 := g5.same s6
        have hR6 := s6 _ _ hR5
        refine ⟨_, rfl, _, rfl, _, _, rfl, rfl, _, rfl, ra, _, rfl, SqL.of hR6, fun p7 np7 => ?_⟩
        have s7 : Same H6 (upd H6 p7 (.lst (cutV (nats R) (some (((x2 : Int) % ((((nats R).length : Nat) : Int) + 1)) + 1)) none))) := Same.upd np7
        have l7 : (upd H6 p7 (.lst (cutV (nats R) (some (((x2 : Int) % ((((nats R).length : Nat) : Int) + 1)) + 1)) none))) p7 = some (.lst (nats (R.drop (q + 1)))) := sl2 H6 p7
        generalize upd H6 p7 (.lst (cutV (nats R) (some (((x2 : Int) % ((((nats R).length : Nat) : Int) + 1)) + 1)) none)) = H7 at s7 l7 ⊢
        have g7 := g6.same s7
        have hR7 := s7 _ _ hR6
        replace l6 := s7 _ _ l6
        refine ⟨p6, p7, _, _, rfl, rfl, l6, l7, small (by simp only [nats_length, List.length_append, List.length_take, List.length_drop, List.length_cons, List.length_nil]; omega), fun p8 np8 => ?_⟩
        have s8 : Same H7 (upd H7 p8 (.lst (nats (R.take q) ++ nats (R.drop (q + 1))))) := Same.upd np8
        have l8 : (upd H7 p8 (.lst (nats (R.take q) ++ nats (R.drop (q + 1))))) p8 = some (.lst (nats ((R.take q) ++ (R.drop (q + 1))))) := by rw [upd_same]; exact congrArg (fun z => some (HO.lst z)) (nats_app _ _).symm
        generalize upd H7 p8 (.lst (nats (R.take q) ++ nats (R.drop (q + 1)))) = H8 at s8 l8 ⊢
        have g8 := g7.same s8
        have hR8 := s8 _ _ hR7
        exact k _ p8 H8 g8 l8 ⟨by simp only [List.length_append, List.length_take, List.length_drop]; omega, b8_app (b8_take h8) (b8_drop h8), ((run_mid (x := []) hrun).mono (by show 9 + (0 + 9) ≤ 19; decide))⟩
      refine ifF (decide_eq_false (fun z => c2 (V.int.inj z))) ?_
      refine ⟨_, rfl, rfl, _, rfl, ?_⟩
      by_cases c3 : (x1 : Int) % 6 = 3
      · refine ifT (decide_eq_true (congrArg V.int c3)) ?_
        refine ⟨_, rfl, _, rfl, _, rfl, ra, _, rfl, SqL.of hR5, fun p6 np6 => ?_⟩
        have s6 : Same H5 (upd H5 p6 (.lst (cutV (nats R) none (some ((x2 : Int) % ((((nats R).length : Nat) : Int) + 1)))))) := Same.upd np6
        have l6 : (upd H5 p6 (.lst (cutV (nats R) none (some ((x2 : Int) % ((((nats R).length : Nat) : Int) + 1)))))) p6 = some (.lst (nats (R.take q))) := sl1 H5 hR5 p6 np6
        generalize upd H5 p6 (.lst (cutV (nats R) none (some ((x2 : Int) % ((((nats R).length : Nat) : Int) + 1))))) = H6 at s6 l6 ⊢
        have g6 := g5.same s6
        have hR6 := s6 _ _ hR5
        refine ⟨_, rfl, by show 1 ≤ sizeLine; decide, fun p7 np7 => ?_⟩
        have s7 : Same H6 (upd H6 p7 (.lst [.int ((b : Nat) : Int)])) := Same.upd np7
        have l7 : (upd H6 p7 (.lst [.int ((b : Nat) : Int)])) p7 = some (.lst (nats [b])) := upd_same
        generalize upd H6 p7 (.lst [.int ((b : Nat) : Int)]) = H7 at s7 l7 ⊢
        have g7 := g6.same s7
        have hR7 := s7 _ _ hR6
        replace l6 := s7 _ _ l6
        refine ⟨p6, p7, _, _, rfl, rfl, l6, l7, small (by simp only [nats_length, List.length_append, List.length_take, List.length_drop, List.length_cons, List.length_nil]; omega), fun p8 np8 => ?_⟩
        have s8 : Same H7 (upd H7 p8 (.lst (nats (R.take q) ++ nats ([b])))) := Same.upd np8
        have l8 : (upd H7 p8 (.lst (nats (R.take q) ++ nats ([b])))) p8 = some (.lst (nats ((R.take q) ++ ([b])))) := by rw [upd_same]; exact congrArg (fun z => some (HO.lst z)) (nats_app _ _).symm
        generalize upd H7 p8 (.lst (nats (R.take q) ++ nats ([b]))) = H8 at s8 l8 ⊢
        have g8 := g7.same s8
        have hR8 := s8 _ _ hR7
        refine ⟨_, rfl, _, rfl, _, rfl, ra, _, rfl, SqL.of hR8, fun p9 np9 => ?_⟩
        have s9 : Same H8 (upd H8 p9 (.lst (cutV (nats R) (some ((x2 : Int) % ((((nats R).length : Nat) : Int) + 1))) none))) := Same.upd np9
        have l9 : (upd H8 p9 (.lst (cutV (nats R) (some ((x2 : Int) % ((((nats R).length : Nat) : Int) + 1))) none))) p9 = some (.lst (nats (R.drop q))) := sl3 H8 p9
        generalize upd H8 p9 (.lst (cutV (nats R) (some ((x2 : Int) % ((((nats R).length : Nat) : Int) + 1))) none)) = H9 at s9 l9 ⊢
        have g9 := g8.same s9
        have hR9 := s9 _ _ hR8
        replace l8 := s9 _ _ l8
        refine ⟨p8, p9, _, _, rfl, rfl, l8, l9, small (by simp only [nats_length, List.length_append, List.length_take, List.length_drop, List.length_cons, List.length_nil]; omega), fun p10 np10 => ?_⟩
        have s10 : Same H9 (upd H9 p10 (.lst (nats ((R.take q) ++ ([b])) ++ nats (R.drop q)))) := Same.upd np10
        have l10 : (upd H9 p10 (.lst (nats ((R.take q) ++ ([b])) ++ nats (R.drop q)))) p10 = some (.lst (nats (((R.take q) ++ ([b])) ++ (R.drop q)))) := by rw [upd_same]; exact congrArg (fun z => some (HO.lst z)) (nats_app _ _).symm
        generalize upd H9 p10 (.lst (nats ((R.take q) ++ ([b])) ++ nats (R.drop q))) = H10 at s10 l10 ⊢
        have g10 := g9.same s10
        have hR10 := s10 _ _ hR9
        exact k _ p10 H10 g10 l10 ⟨by simp only [List.length_append, List.length_take, List.length_drop, List.length_cons, List.length_nil]; omega, b8_app (b8_app (b8_take h8) (b8_one hb256)) (b8_drop h8), (by rw [List.append_assoc]; exact (run_mid (x := [b]) hrun).mono (by show 9 + (1 + 9) ≤ 19; decide))⟩
      refine ifF (decide_eq_false (fun z => c3 (V.int.inj z))) ?_
      refine ⟨_, rfl, rfl, _, rfl, ?_⟩
      by_cases c4 : (x1 : Int) % 6 = 4
      · refine ifT (decide_eq_true (congrArg V.int c4)) ?_
        refine ⟨_, rfl, _, rfl, _, rfl, ra, _, rfl, SqL.of hR5, fun p6 np6 => ?_⟩
        have s6 : Same H5 (upd H5 p6 (.lst (cutV (nats R) none (some ((x2 : Int) % ((((nats R).length : Nat) : Int) + 1)))))) := Same.upd np6
        have l6 : (upd H5 p6 (.lst (cutV (nats R) none (some ((x2 : Int) % ((((nats R).length : Nat) : Int) + 1)))))) p6 = some (.lst (nats (R.take q))) := sl1 H5 hR5 p6 np6
        generalize upd H5 p6 (.lst (cutV (nats R) none (some ((x2 : Int) % ((((nats R).length : Nat) : Int) + 1))))) = H6 at s6 l6 ⊢
        have g6 := g5.same s6
        have hR6 := s6 _ _ hR5
        exact k _ p6 H6 g6 l6 ⟨by simp only [List.length_take]; omega, b8_take h8, (run_take hrun).mono (by decide)⟩
      refine ifF (decide_eq_false (fun z => c4 (V.int.inj z))) ?_
      refine ⟨_, rfl, by show 1 ≤ sizeLine; decide, fun p6 np6 => ?_⟩
      have s6 : Same H5 (upd H5 p6 (.lst [.int ((b : Nat) : Int)])) := Same.upd np6
      have l6 : upd H5 p6 (.lst [.int ((b : Nat) : Int)]) p6 = some (.lst (nats [b])) := upd_same
      generalize upd H5 p6 (.lst [.int ((b : Nat) : Int)]) = H6 at s6 l6 ⊢
      have g6 := g5.same s6
      refine ⟨_, rfl, d, r, ds, rfl, g6.dr, fun v dt H7 hv d7 b7 hd7 => ?_⟩
      have l7 := b7 _ _ (g6.dr.ne0 l6) l6
      have g7 := g6.but b7 hd7
      obtain ⟨x7, rfl⟩ := hv
      obtain rfl := d7.int_inv
      have e7 : (x7 : Int) % 7 = ((x7 % 7 : Nat) : Int) := by omega
      refine ⟨_, _, rfl, rfl, by show (0 : Int) < 7; decide, ((x7 % 7 : Nat) : Int), congrArg (fun z => [V.int z]) e7, by omega, by omega, fun D nD => ?_⟩
      refine lc_it walk_range (fun j H' => ∃ ys : List Nat, ys.length = j ∧ (∀ y ∈ ys, y < 33) ∧ Gs K d r ds H7 H' ∧ H' D = some (.lst (nats ys)) ∧ H' p6 = some (.lst (nats [b]))) ⟨[], rfl, by simp, (Gs.refl hd7).same (Same.upd nD), upd_same, Same.upd nD _ _ l7⟩ (fun _ _ _ _ => trivial) ?_ ?_
      · rintro j x H8' H8 hj ⟨ys, hl, hy, g8, h8D, h8p⟩ ⟨rfl, rfl⟩
        refine ⟨rfl, _, rfl, d, r, ds, rfl, g8.dr, fun v dt H9 hv d9 b9 hd9 => ?_⟩
        have g9 := g8.but b9 hd9
        obtain ⟨x9, rfl⟩ := hv
        obtain rfl := d9.int_inv
        have h9D : H9 D = some (.lst (nats ys)) := b9 _ _ (hd7.ne nD) h8D
        have h9p := b9 _ _ (g8.dr.ne0 h8p) h8p
        have npD : p6 ≠ D := fun z => by rw [z, nD] at l7; cases l7
        refine ⟨_, _, rfl, rfl, by show (0 : Int) < 33; decide, _, h9D, smallLt (by rw [nats_length]; omega), ys ++ [x9 % 33], by rw [List.length_append, hl]; rfl, ?_, g9.store hd7 nD h9D, ?_, by rw [upd_ne npD]; exact h9p⟩
        · intro y hy'
          rcases List.mem_append.mp hy' with hy' | hy'
          · exact hy y hy'
          · simp at hy'
            omega
        · rw [upd_same, nats_app]
          rfl
      · rintro H8 ⟨ys, hl, hy, g8, h8D, h8p⟩
        have hl' : ys.length ≤ 6 := by omega
        refine ⟨p6, D, _, _, rfl, rfl, h8p, h8D, small (by simp only [nats_length, List.length_cons, List.length_nil]; omega), fun p9 np9 => ?_⟩
        refine k ([b] ++ ys) p9 _ ((g7.trans g8).same (Same.upd np9)) (by rw [upd_same, nats_app]) ⟨by simp only [List.length_append, List.length_cons, List.length_nil]; omega, b8_app (b8_one hb256) (fun y h => by have := hy y h; omega), (run_length (l := [b] ++ ys)).mono (by simp only [List.length_append, List.length_cons, List.length_nil]; omega)⟩
end
end L2.KR

namespace L2.KR
open PySem PySem.Spec PyProof.Rows K53
/-! ### _law_right -/
/-- isinstance(e, c) where the suite's exception is one of the class D -/
theorem call_isE' {X : Cx} {a D : Addr} {oe : Obj} {cls : Value} {d : Option Addr} {pn : List (Addr × Obj)} (C : ExcC X.K D) (hz : Zc cls d oe) (hf : ∃ vs, oe.data = .fields vs) :
    CallR (X.suite a ((a, oe) :: pn)) (.builtin "isinstance") (fun xs H Q => cls = .ref D ∧ d = none ∧ rIsE X.K D a xs H Q) := by
  intro pins s σ H xs us Q I r h
  obtain ⟨rfl, rfl, h⟩ := h
  exact call_isE C hz hf pins s σ H xs us Q I r h
structure TxtR (K : PySem.W.Frag) (mg : Str → Option Value) (CB : Addr) : Prop where
  ec : ExcC K CB
  te : PySem.W.exmOne K (.ref CB) (.ref CB) = some true
  code : ∃ CE, mg "CodeError" = some (.ref CE) ∧ PySem.W.kitOne K (.ref CB) (.ref CE) = some true
  step : ∃ CS, mg "BadStep" = some (.ref CS) ∧ PySem.W.kitOne K (.ref CB) (.ref CS) = some false
/-- read_bytes, called -/
structure CalRB (P : Program) (w : World) (K : PySem.W.Frag) (mg : Str → Option Value) (base : Heap) (CB : Addr) : Prop where
  ex : ∃ (f : Addr) (fd : FuncData), FnOk P w K mg base (L2.CX P w) 6 f fd ["row"] (spRB K CB) ∧ mg "read_bytes" = some (.ref f) ∧ PySem.W.keepIn K (.ref f) = true ∧ Binds K fd ["row"] []
def spRT (K : PySem.W.Frag) : Sp := fun vs H Q _ => ∃ ra, ∃ R : List Nat, vs = [.ref ra] ∧ H ra = some (.lst (nats R)) ∧ Near R ∧ ∀ H', Same H H' → Q (.bl true) H'
theorem big_run : 128 ^ (19 + 1) ≤ bigM + 1 := by decide +kernel
abbrev sRT : Stmt := top 55
section
variable {P : Program} {w : World} {K : PySem.W.Frag} {mg : Str → Option Value} {base : Heap} {C CB : Addr}
theorem scRT : FnScope ["_law_row_here", "_law_code_here", "e"] ["_law_row_here"] (defScope sRT) := ⟨rfl, rfl, rfl, by decide +kernel, rfl, by decide +kernel, by decide +kernel⟩
def t_trya (K : PySem.W.Frag) (CB : Addr) (W : WX) : TS := tAsg (tCallS (spRB K CB) (WE W) (tCons (tVar 0) tNil)) (gName 1)
theorem ok_rt {f : Addr} {fd : FuncData} (F : Fun K "_law_right" "_law_right" sRT f fd) (T : Txt w K mg) (B : TxtB w K mg C CB) (R : TxtR K mg CB) (cRB : CalRB P w K mg base CB) (cQK : C8.Cal P w K mg base 4 "_law_is_code" (spQK K) []) (cLB : C8.Cal P w K mg base 3 "_law_bytes" (spLB K) []) : FnOk P w K mg base CX0 7 f fd ["_law_row_here"] (spRT K) := by
  obtain ⟨fR, fdR, GR, mR, kR, bR⟩ := cRB.ex
  obtain ⟨CE, mE, kE⟩ := R.code
  obtain ⟨CS, mS, kS⟩ := R.step
  refine F.ok scRT (fun vs H Q E h => ?_) (fun cdv A outer s0 H vs Q E hr h => ?_)
  · obtain ⟨ra, bs, rfl, _⟩ := h
    rfl
  · obtain ⟨ra, bs, rfl, hR, ⟨hl, h8, hrun⟩, k⟩ := h
    have hr4 : Room 4 _ := hr.mono (by decide)
    refine ⟨_, pss_cons (ps_try_as (i := 2) (x := "BadBytes") (c := .ref CB) (tb := t_trya K CB) (Wout := fun _ _ _ _ => False) rfl rfl scRT.nd rfl rfl ⟨rfl, by decide, Or.inl B.bad⟩ takes0
        (fun W pn xe tk _ => pss_one (ps_set (i := 1) scRT.nd rfl (Or.inl rfl) (by exact (pe_callS GR hr rfl mR kR bR (fun σ => passAt tk σ) (by exact (pa_cons (pv 0) pa_nil))))))
        (fun a oe cls d pn hz hf => pss_one (ps_ret (pe_and (pe_callB (call_isE' R.ec hz hf) (by rfl) T.isi boot_isinstance (pa_cons (pv 2) (pa_cons (pe_gref (by rfl) mE) pa_nil))) (pe_one (pe_not (pe_callB (call_isE' R.ec hz hf) (by rfl) T.isi boot_isinstance (pa_cons (pv 2) (pa_cons (pe_gref (by rfl) mS) pa_nil)))))))))
      (pss_one (ps_ret (pe_and (C8.pe_c cQK hr4 (by decide) (by rfl) (pa_cons (pv 1) pa_nil)) (pe_one (pe_cmpR (op_eqD (units64 hr)) (C8.pe_c cLB hr4 (by decide) (by rfl) (pa_cons (pv 1) pa_nil)) (pv 0) (nomark _)))))), ?_⟩
    refine ⟨_, rfl, ra, bs, rfl, hR, by omega, h8, fun e0 H1 s1 => ?_, fun c e1 v H1 s1 d1 => ?_⟩
    · refine ⟨true, R.te, fun _ a na => ?_, fun q => Bool.noConfusion q⟩
      refine ⟨_, rfl, rfl, rfl, .ref CE, .ref CE, true, rfl, fun u hu => hu, kE, ⟨true, rfl, ?_⟩⟩
      refine ⟨_, rfl, rfl, rfl, .ref CS, .ref CS, false, rfl, fun u hu => hu, kS, ⟨false, rfl, ?_⟩⟩
      exact k _ s1
    · obtain ⟨g1, g2, g3⟩ := rd_inv e1
      have typ := pCode_typ h8 g1
      have cnt := cntC_of_run big_run (c := c) (by rw [g3]; exact hrun)
      refine ⟨_, rfl, v, c, rfl, typ, g2, cnt, d1, fun H2 s2 => ⟨true, rfl, ?_⟩⟩
      refine ⟨_, rfl, v, c, rfl, typ, cnt, d1.mono s2, by rw [g3]; omega, fun H3 p3 s3 n3 h3 => ?_⟩
      have hR3 := s3 _ _ (s2 _ _ (s1 _ _ hR))
      refine ⟨_, rfl, .list ((enc c).map dI), .list (bs.map dI), .lst (SqL.of h3) (dp_nats _), .lst (SqL.of hR3) (dp_nats _), shaped_nats _, shaped_nats _, ?_⟩
      have eE : PyData.eqv (.list ((enc c).map dI)) (.list (bs.map dI)) = decide (enc c = bs) := eqv_nats _ _
      rw [eE, decide_eq_true g3]
      exact k _ (s1.trans (s2.trans s3))
end
end L2.KR

namespace L2.KR
open PySem PySem.Spec PyProof.Rows K53
/-! ### the law -/
theorem eqv_datC {c : K53.Code} (h : TypC c) : PyData.eqv (datC c) (datC c) = true := SeqAt.eqv_refl _ (lay_datC h).1
theorem enc_nil : enc ([], []) = [0, 0] := by
  unfold enc
  simp [cb_small]
def spLaw (K : PySem.W.Frag) : Sp := fun vs H Q _ => ∃ (a : Addr) (ns : List Int), vs = [.ref a] ∧ SqL K H a (ns.map V.int) ∧ ns.length ≤ 63 ∧ ∀ H', Q (.bl true) H'
abbrev sLaw : Stmt := top 56
section
variable {P : Program} {w : World} {K : PySem.W.Frag} {mg : Str → Option Value} {base : Heap} {C CB : Addr}
theorem scLaw : FnScope ["_law_script", "_law_d", "_law_code_here", "_law_row_here", "_law_turn"] ["_law_script"] (defScope sLaw) := ⟨rfl, rfl, rfl, by decide +kernel, rfl, by decide +kernel, by decide +kernel⟩
theorem ok_law {f : Addr} {fd : FuncData} (F : Fun K "law" "law" sLaw f fd) (T : Txt w K mg) (cRB : CalRB P w K mg base CB) (cWB : C8.Cal P w K mg base 4 "write_bytes" (spWB K) []) (cLS : C8.Cal P w K mg base 2 "_law_start" (spLS K) []) (cLC : C8.Cal P w K mg base 5 "_law_code" (spLC K) []) (cLB : C8.Cal P w K mg base 3 "_law_bytes" (spLB K) [])
    (cLO : C8.Cal P w K mg base 2 "_law_other" (spLO K) []) (cRT : C8.Cal P w K mg base 7 "_law_right" (spRT K) []) : FnOk P w K mg base CX0 8 f fd ["_law_script"] (spLaw K) := by
  obtain ⟨fR, fdR, GR, mR, kR, bR⟩ := cRB.ex
  refine F.ok scLaw (fun vs H Q E h => ?_) (fun cdv A outer s0 H vs Q E hr h => ?_)
  · obtain ⟨a, ns, rfl, _⟩ := h
    rfl
  · obtain ⟨a, ns, rfl, hS, hlen, k⟩ := h
    have hr6 : Room 6 _ := hr.mono (by decide)
    refine ⟨_, pss_cons (ps_set (i := 1) scLaw.nd rfl (Or.inl rfl) (C8.pe_c cLS hr (by decide) (by rfl) (pa_cons (pv 0) pa_nil)))
      (pss_cons (ps_set (i := 2) scLaw.nd rfl (Or.inl rfl) (C8.pe_c cLC hr (by decide) (by rfl) (pa_cons (pv 1) pa_nil)))
      (pss_cons (ps_set (i := 3) scLaw.nd rfl (Or.inl rfl) (C8.pe_c cWB hr (by decide) (by rfl) (pa_cons (pv 2) pa_nil)))
      (pss_cons (ps_if (PW.pt (pw_or (pt_not (pt_val (pe_callB call_isi (by rfl) T.isi boot_isinstance (pa_cons (pv 3) (pa_cons (pe_bltn (v := .ty "list") (by rfl) T.list boot_list rfl) pa_nil))))) (pw_or (pt_cmpR (op_neD (units64 hr)) (pv 3) (C8.pe_c cLB hr (by decide) (by rfl) (pa_cons (pv 2) pa_nil)) (nomark _))
          (pw_or1 (pt_cmpR (op_neD (units64 hr)) (pe_call GR hr6 (by rfl) mR kR bR .nil passL (pa_cons (pe_callTy call_list_of (by rfl) T.list boot_list (pa_cons (pv 3) pa_nil)) pa_nil)) (pv 2) (nomark _)))))) (pss_one (ps_ret pe_bl)) pss_nil)
      (pss_cons (ps_for PassesOwn.never rfl (pi_range1 (by rfl) T.range (pa_cons pe_int pa_nil)) (pg_name (i := 4) scLaw.nd rfl (Or.inl rfl))
        (pss_one (ps_if (pt_not (pt_val (C8.pe_c cRT hr (by decide) (by rfl) (pa_cons (C8.pe_c cLO hr (by decide) (by rfl) (pa_cons (pv 1) (pa_cons (pv 3) pa_nil))) pa_nil)))) (pss_one (ps_ret pe_bl)) pss_nil)))
      (pss_one (ps_ret (pe_and (pe_cmpR (op_eqD (units64 hr)) (C8.pe_c cWB hr (by decide) (by rfl) (pa_cons (pe_tup (pa_cons (pe_tup pa_nil) (pa_cons (pe_tup pa_nil) pa_nil))) pa_nil)) (pe_lst (pa_cons pe_int (pa_cons pe_int pa_nil))) (nomark _))
        (pe_one (pe_cmpR (op_eqD (units64 hr)) (pe_call GR hr6 (by rfl) mR kR bR .nil passL (pa_cons (pe_lst (pa_cons pe_int (pa_cons pe_int pa_nil))) pa_nil)) (pe_tup (pa_cons (pe_tup pa_nil) (pa_cons (pe_tup pa_nil) pa_nil))) (nomark _)))))))))), ?_⟩
    refine ⟨_, rfl, a, ns, rfl, hS, hlen, fun H1 d r ds s1 nd1 hd1 => ?_⟩
    refine ⟨_, rfl, d, r, ds, rfl, hd1, fun c v H2 hc d2 g2 => ?_⟩
    have typ := hc.typ
    have lenc := hc.len
    have b8 : K53.B8 (enc c) := enc_byte typ
    have rdc := rd_enc typ hc.ok
    refine ⟨_, rfl, v, c, rfl, typ, d2, by omega, fun H3 p3 s3 n3 h3 => ?_⟩
    have d3 := d2.mono s3
    refine ⟨_, rfl, _, _, _, _, _, rfl, .ty _, .base (.lst h3), kit_ty kit_ll, ⟨true, rfl, ?_⟩⟩
    have cnt := cntC_of_run big_run (c := c) (hc.run.mono (by decide))
    refine ⟨_, rfl, _, rfl, v, c, rfl, typ, cnt, d3, by omega, fun H4 p4 s4 n4 h4 => ?_⟩
    have h34 := s4 _ _ h3
    refine ⟨.list ((enc c).map dI), .list ((enc c).map dI), .lst (SqL.of h34) (dp_nats _), .lst (SqL.of h4) (dp_nats _), shaped_nats _, shaped_nats _, false, ?_, ?_⟩
    · have eE : PyData.eqv (.list ((enc c).map dI)) (.list ((enc c).map dI)) = decide (enc c = enc c) := eqv_nats _ _
      rw [eE, decide_eq_true rfl]
      rfl
    refine ⟨_, rfl, p3, _, rfl, .inl (SqL.of h34), fun p5 n5 => ?_⟩
    have s5 : Same H4 (upd H4 p5 (.lst (nats (enc c)))) := Same.upd n5
    refine ⟨p5, enc c, rfl, upd_same, by omega, b8, (fun e0 => by rw [rdc] at e0; cases e0), fun c' e1 v' H6 s6 d6 => ?_⟩
    rw [rdc] at e1
    obtain rfl := Option.some.inj e1
    have d36 := ((d3.mono s4).mono s5).mono s6
    refine ⟨_, rfl, datC c, datC c, d6, d36, shaped_of (lay_datC typ) (by decide), shaped_of (lay_datC typ) (by decide), false, ?_, ?_⟩
    · rw [eqv_datC typ]
      rfl
    -- the fourteen others
    have s36 : Same H3 H6 := s4.trans (s5.trans s6)
    have g6 : Gs K d r ds H1 H6 := (g2.same s3).same s36
    have h36 := s36 _ _ h3
    refine ⟨14, rfl, by decide, by decide, for_range (n := 14) (fun i σ H' => ∃ v4 : Option V, σ = [some (.ref a), some (.ref d), some v, some (.ref p3), v4] ∧ Gs K d r ds H1 H' ∧ H' p3 = some (.lst (nats (enc c)))) ⟨none, rfl, g6, h36⟩ ?_ ?_⟩
    · rintro i σ H7 hi ⟨v4, rfl, g7, h7⟩
      refine ⟨_, rfl, _, rfl, d, r, ds, p3, enc c, rfl, g7.dr, h7, by omega, b8, hc.run, fun R' p8 H8 g8 h8 near => ?_⟩
      have h38 := g8.b _ _ (g7.dr.ne0 h7) h7
      refine ⟨p8, R', rfl, h8, near, fun H9 s9 => ?_⟩
      exact ⟨true, rfl, _, rfl, (g7.trans g8).same s9, s9 _ _ h38⟩
    · rintro σ H7 ⟨v4, rfl, g7, h7⟩
      have tnil : TypC (([], []) : K53.Code) := ⟨(fun k h => by cases h), (fun r h => by cases h)⟩
      have okn : okC (([], []) : K53.Code) = true := rfl
      refine ⟨Nat.zero_le _, fun q1 m1 => ⟨Nat.zero_le _, fun q2 m2 => ⟨by show 2 ≤ sizeLine; decide, fun q3 m3 => ?_⟩⟩⟩
      have u1 : Same H7 (upd H7 q1 (.tup [])) := Same.upd m1
      have u2 : Same (upd H7 q1 (.tup [])) (upd (upd H7 q1 (.tup [])) q2 (.tup [])) := Same.upd m2
      have u3 : Same (upd (upd H7 q1 (.tup [])) q2 (.tup [])) (upd (upd (upd H7 q1 (.tup [])) q2 (.tup [])) q3 (.tup [.ref q1, .ref q2])) := Same.upd m3
      have dn : Dp K (upd (upd (upd H7 q1 (.tup [])) q2 (.tup [])) q3 (.tup [.ref q1, .ref q2])) (.ref q3) (datC ([], [])) :=
        .tup (SqT.of upd_same) (.cons (.tup (SqT.of (u3 _ _ (u2 _ _ upd_same))) .nil) (.cons (.tup (SqT.of (u3 _ _ upd_same)) .nil) .nil))
      refine ⟨_, ([], []), rfl, tnil, dn, by rw [enc_nil]; decide, fun H8 p8 s8 n8 h8 => ?_⟩
      rw [enc_nil] at h8
      refine ⟨by show 2 ≤ sizeLine; decide, fun q4 m4 => ?_⟩
      have s9 : Same H8 (upd H8 q4 (.lst [.int 0, .int 0])) := Same.upd m4
      refine ⟨.list ([0, 0].map dI), .list ([0, 0].map dI), .lst (SqL.of (s9 _ _ h8)) (dp_nats _), .lst (SqL.of upd_same) (dp_nats [0, 0]), shaped_nats _, shaped_nats _, ?_⟩
      have e00 : PyData.eqv (.list (([0, 0] : List Nat).map dI)) (.list (([0, 0] : List Nat).map dI)) = true := (eqv_nats _ _).trans (decide_eq_true rfl)
      rw [e00]
      refine ⟨true, rfl, ?_⟩
      refine ⟨by show 2 ≤ sizeLine; decide, fun q5 m5 => ?_⟩
      have rd0 : rd [0, 0] = some ([], []) := by rw [← enc_nil]; exact rd_enc tnil okn
      refine ⟨q5, [0, 0], rfl, upd_same, by decide, fun b hb => by simp at hb; omega, (fun e0 => by rw [rd0] at e0; cases e0), fun c' e1 v' H10 s10 d10 => ?_⟩
      rw [rd0] at e1
      obtain rfl := Option.some.inj e1
      refine ⟨Nat.zero_le _, fun r1 o1 => ⟨Nat.zero_le _, fun r2 o2 => ⟨by show 2 ≤ sizeLine; decide, fun r3 o3 => ?_⟩⟩⟩
      have w1 : Same H10 (upd H10 r1 (.tup [])) := Same.upd o1
      have w2 : Same (upd H10 r1 (.tup [])) (upd (upd H10 r1 (.tup [])) r2 (.tup [])) := Same.upd o2
      have w3 : Same (upd (upd H10 r1 (.tup [])) r2 (.tup [])) (upd (upd (upd H10 r1 (.tup [])) r2 (.tup [])) r3 (.tup [.ref r1, .ref r2])) := Same.upd o3
      have dm : Dp K (upd (upd (upd H10 r1 (.tup [])) r2 (.tup [])) r3 (.tup [.ref r1, .ref r2])) (.ref r3) (datC ([], [])) :=
        .tup (SqT.of upd_same) (.cons (.tup (SqT.of (w3 _ _ (w2 _ _ upd_same))) .nil) (.cons (.tup (SqT.of (w3 _ _ upd_same)) .nil) .nil))
      refine ⟨datC ([], []), datC ([], []), ((d10.mono w1).mono w2).mono w3, dm, rfl, rfl, ?_⟩
      rw [eqv_datC tnil]
      exact k _
end
end L2.KR

namespace L2.KR
open PySem PySem.Spec PyProof.Rows K53
/-! ### the end: what the top has written -/
def rB : V → Value → Bool
  | .str x, .str y _ => decide (x = y)
  | .int i, .int j _ => decide (i = j)
  | .ref a, .ref b => decide (a = b)
  | _, _ => false
theorem rB_ok {v : V} {u : Value} (h : rB v u = true) : RelV v u := by
  unfold rB at h
  split at h
  · rw [of_decide_eq_true h]
    exact ⟨_, rfl⟩
  · rw [of_decide_eq_true h]
    exact ⟨_, rfl⟩
  · rw [of_decide_eq_true h]
    rfl
  · cases h
def rsB : List V → List Value → Bool
  | [], [] => true
  | v :: vs, u :: us => rB v u && rsB vs us
  | _, _ => false
theorem rsB_ok : ∀ {vs : List V} {us : List Value}, rsB vs us = true → Vals vs us
  | [], [], _ => .nil
  | v :: vs, u :: us, h => by
    have h' : (rB v u && rsB vs us) = true := h
    rw [Bool.and_eq_true] at h'
    exact .cons (rB_ok h'.1) (rsB_ok h'.2)
  | [], _ :: _, h => by cases h
  | _ :: _, [], h => by cases h
/-- a tuple of the written part, looked at -/
def ktB (K : PySem.W.Frag) (a : Addr) (xs : List V) : Bool := match K.lookup a with
  | some ⟨.type c, none, .seq its _, _⟩ => decide (c = "tuple") && rsB xs its.toList
  | _ => false
theorem ktB_ok {K : PySem.W.Frag} {a : Addr} {xs : List V} (h : ktB K a xs = true) (hl : xs.length ≤ 1000) : KT K a xs := by
  unfold ktB at h
  split at h
  · rename_i c its n sl e
    rw [Bool.and_eq_true] at h
    have hc := of_decide_eq_true h.1
    subst hc
    have v := rsB_ok h.2
    exact ⟨its, n, sl, e, small (by have h1 := v.length; have h2 : its.toList.length = its.size := Array.length_toList; omega), v⟩
  · cases h
def refAt (K : PySem.W.Frag) (a : Addr) (x : Str) (xs : List V) : Bool := match PySem.W.nsIn K a x with
  | some (some (.ref t)) => ktB K t xs
  | _ => false
theorem refAt_ok {K : PySem.W.Frag} {a : Addr} {x : Str} {xs : List V} (h : refAt K a x xs = true) (hl : xs.length ≤ 1000) : ∃ t, PySem.W.nsIn K a x = some (some (.ref t)) ∧ KT K t xs := by
  unfold refAt at h
  split at h
  · rename_i t e
    exact ⟨t, e, ktB_ok h hl⟩
  · cases h
def partsB (K : PySem.W.Frag) (a : Addr) : Bool := (List.range 32).all fun j => refAt K a (wd j) ((srt j).map fun s => V.str (nm s))
def choB (K : PySem.W.Frag) (a : Addr) : Bool := (List.range 4).all fun c => refAt K a (cn c) ((cws c).map V.str)
theorem cws_le : ∀ c, c < 4 → ((cws c).map V.str).length ≤ 1000 := by decide +kernel
theorem partsB_ok {K : PySem.W.Frag} {a : Addr} (h : partsB K a = true) : ∀ j, j < 32 → ∃ t, PySem.W.nsIn K a (wd j) = some (some (.ref t)) ∧ KT K t ((srt j).map fun s => V.str (nm s)) := fun j hj =>
  refAt_ok (List.all_eq_true.mp h j (List.mem_range.mpr hj)) (by rw [List.length_map]; have := srt_le j; omega)
theorem choB_ok {K : PySem.W.Frag} {a : Addr} (h : choB K a = true) : ∀ c, c < 4 → ∃ t, PySem.W.nsIn K a (cn c) = some (some (.ref t)) ∧ KT K t ((cws c).map V.str) := fun c hc =>
  refAt_ok (List.all_eq_true.mp h c (List.mem_range.mpr hc)) (cws_le c hc)

theorem all_mk {l : PySem.W.OpenLaw} {w : World} {K : PySem.W.Frag} {h : Heap} {mg : Str → Option Value} {fa : Addr} (X : K.In h) (G : h.Ns mainGlobals mg) (hfa : mg "law" = some (.ref fa))
    {u_rng : Tok}
    {u_half : Tok}
    {u_longest : Tok}
    {u_regs : Tok}
    {w_words : Addr}
    {w_views : Addr}
    {w_signs : Addr}
    {w_comps : Addr}
    {w_sorts : Addr}
    {w_kinds : Addr}
    {w_regp : Addr}
    {w_cnts : Addr}
    {aP aC aH hb hc hd he : Addr} {esP esC : Array DictEntry} {nP nC nH : Nat} {slH : Array (Option Value)}
    {C CB CE CS : Addr}
    {f11 : Addr} {od11 an11 : Option Addr} {sl11 : Array (Option Value)} {oc11 kV11 dc11 pm11 cd11 ct11 : Value}
    {f12 : Addr} {od12 an12 : Option Addr} {sl12 : Array (Option Value)} {oc12 kV12 dc12 pm12 cd12 ct12 : Value}
    {f13 : Addr} {od13 an13 : Option Addr} {sl13 : Array (Option Value)} {oc13 kV13 dc13 pm13 cd13 ct13 : Value}
    {f14 : Addr} {od14 an14 : Option Addr} {sl14 : Array (Option Value)} {oc14 kV14 dc14 pm14 cd14 ct14 : Value}
    {f15 : Addr} {od15 an15 : Option Addr} {sl15 : Array (Option Value)} {oc15 kV15 dc15 pm15 cd15 ct15 : Value}
    {f16 : Addr} {od16 an16 : Option Addr} {sl16 : Array (Option Value)} {oc16 kV16 dc16 pm16 cd16 ct16 : Value}
    {f17 : Addr} {od17 an17 : Option Addr} {sl17 : Array (Option Value)} {oc17 kV17 dc17 pm17 cd17 ct17 : Value}
    {f18 : Addr} {od18 an18 : Option Addr} {sl18 : Array (Option Value)} {oc18 kV18 dc18 pm18 cd18 ct18 : Value}
    {f30 : Addr} {od30 an30 : Option Addr} {sl30 : Array (Option Value)} {oc30 kV30 dc30 pm30 cd30 ct30 : Value}
    {f31 : Addr} {od31 an31 : Option Addr} {sl31 : Array (Option Value)} {oc31 kV31 dc31 pm31 cd31 ct31 : Value}
    {f32 : Addr} {od32 an32 : Option Addr} {sl32 : Array (Option Value)} {oc32 kV32 dc32 pm32 cd32 ct32 : Value}
    {f33 : Addr} {od33 an33 : Option Addr} {sl33 : Array (Option Value)} {oc33 kV33 dc33 pm33 cd33 ct33 : Value}
    {fI : Addr} {odI anI : Option Addr} {slI : Array (Option Value)} {ocI kVI dcI pmI cdI ctI : Value}
    {fM1 : Addr} {odM1 anM1 : Option Addr} {slM1 : Array (Option Value)} {ocM1 kVM1 dcM1 pmM1 cdM1 ctM1 : Value}
    {fM2 : Addr} {odM2 anM2 : Option Addr} {slM2 : Array (Option Value)} {ocM2 kVM2 dcM2 pmM2 cdM2 ctM2 : Value}
    {fM3 : Addr} {odM3 anM3 : Option Addr} {slM3 : Array (Option Value)} {ocM3 kVM3 dcM3 pmM3 cdM3 ctM3 : Value}
    {fM4 : Addr} {odM4 anM4 : Option Addr} {slM4 : Array (Option Value)} {ocM4 kVM4 dcM4 pmM4 cdM4 ctM4 : Value}
    {fM5 : Addr} {odM5 anM5 : Option Addr} {slM5 : Array (Option Value)} {ocM5 kVM5 dcM5 pmM5 cdM5 ctM5 : Value}
    {fM6 : Addr} {odM6 anM6 : Option Addr} {slM6 : Array (Option Value)} {ocM6 kVM6 dcM6 pmM6 cdM6 ctM6 : Value}
    {fM7 : Addr} {odM7 anM7 : Option Addr} {slM7 : Array (Option Value)} {ocM7 kVM7 dcM7 pmM7 cdM7 ctM7 : Value}
    {f35 : Addr} {od35 an35 : Option Addr} {sl35 : Array (Option Value)} {oc35 kV35 dc35 pm35 cd35 ct35 : Value}
    {f37 : Addr} {od37 an37 : Option Addr} {sl37 : Array (Option Value)} {oc37 kV37 dc37 pm37 cd37 ct37 : Value}
    {f38 : Addr} {od38 an38 : Option Addr} {sl38 : Array (Option Value)} {oc38 kV38 dc38 pm38 cd38 ct38 : Value}
    {f39 : Addr} {od39 an39 : Option Addr} {sl39 : Array (Option Value)} {oc39 kV39 dc39 pm39 cd39 ct39 : Value}
    {f40 : Addr} {od40 an40 : Option Addr} {sl40 : Array (Option Value)} {oc40 kV40 dc40 pm40 cd40 ct40 : Value}
    {f41 : Addr} {od41 an41 : Option Addr} {sl41 : Array (Option Value)} {oc41 kV41 dc41 pm41 cd41 ct41 : Value}
    {f42 : Addr} {od42 an42 : Option Addr} {sl42 : Array (Option Value)} {oc42 kV42 dc42 pm42 cd42 ct42 : Value}
    {f43 : Addr} {od43 an43 : Option Addr} {sl43 : Array (Option Value)} {oc43 kV43 dc43 pm43 cd43 ct43 : Value}
    {f44 : Addr} {od44 an44 : Option Addr} {sl44 : Array (Option Value)} {oc44 kV44 dc44 pm44 cd44 ct44 : Value}
    {f45 : Addr} {od45 an45 : Option Addr} {sl45 : Array (Option Value)} {oc45 kV45 dc45 pm45 cd45 ct45 : Value}
    {f46 : Addr} {od46 an46 : Option Addr} {sl46 : Array (Option Value)} {oc46 kV46 dc46 pm46 cd46 ct46 : Value}
    {f47 : Addr} {od47 an47 : Option Addr} {sl47 : Array (Option Value)} {oc47 kV47 dc47 pm47 cd47 ct47 : Value}
    {f48 : Addr} {od48 an48 : Option Addr} {sl48 : Array (Option Value)} {oc48 kV48 dc48 pm48 cd48 ct48 : Value}
    {f49 : Addr} {od49 an49 : Option Addr} {sl49 : Array (Option Value)} {oc49 kV49 dc49 pm49 cd49 ct49 : Value}
    {f50 : Addr} {od50 an50 : Option Addr} {sl50 : Array (Option Value)} {oc50 kV50 dc50 pm50 cd50 ct50 : Value}
    {f51 : Addr} {od51 an51 : Option Addr} {sl51 : Array (Option Value)} {oc51 kV51 dc51 pm51 cd51 ct51 : Value}
    {f52 : Addr} {od52 an52 : Option Addr} {sl52 : Array (Option Value)} {oc52 kV52 dc52 pm52 cd52 ct52 : Value}
    {f53 : Addr} {od53 an53 : Option Addr} {sl53 : Array (Option Value)} {oc53 kV53 dc53 pm53 cd53 ct53 : Value}
    {f54 : Addr} {od54 an54 : Option Addr} {sl54 : Array (Option Value)} {oc54 kV54 dc54 pm54 cd54 ct54 : Value}
    {f55 : Addr} {od55 an55 : Option Addr} {sl55 : Array (Option Value)} {oc55 kV55 dc55 pm55 cd55 ct55 : Value}
    {f56 : Addr} {od56 an56 : Option Addr} {sl56 : Array (Option Value)} {oc56 kV56 dc56 pm56 cd56 ct56 : Value}
    (i_rng : PySem.W.nsIn K mainGlobals "RANGE" = some (some (.int 18446744073709551616 u_rng)))
    (i_half : PySem.W.nsIn K mainGlobals "HALF" = some (some (.int 9223372036854775808 u_half)))
    (i_longest : PySem.W.nsIn K mainGlobals "LONGEST" = some (some (.int 32 u_longest)))
    (i_regs : PySem.W.nsIn K mainGlobals "REGISTERS" = some (some (.int 8 u_regs)))
    (n_words : PySem.W.nsIn K mainGlobals "WORDS" = some (some (.ref w_words)))
    (t_words : ktB K w_words (wds.map V.str) = true)
    (n_views : PySem.W.nsIn K mainGlobals "VIEW_WORDS" = some (some (.ref w_views)))
    (t_views : ktB K w_views ((cws 0).map V.str) = true)
    (n_signs : PySem.W.nsIn K mainGlobals "SIGNS" = some (some (.ref w_signs)))
    (t_signs : ktB K w_signs ((cws 1).map V.str) = true)
    (n_comps : PySem.W.nsIn K mainGlobals "COMPARES" = some (some (.ref w_comps)))
    (t_comps : ktB K w_comps ((cws 2).map V.str) = true)
    (n_sorts : PySem.W.nsIn K mainGlobals "SORTS" = some (some (.ref w_sorts)))
    (t_sorts : ktB K w_sorts ((cws 3).map V.str) = true)
    (n_kinds : PySem.W.nsIn K mainGlobals "KINDS" = some (some (.ref w_kinds)))
    (t_kinds : ktB K w_kinds (kns.map V.str) = true)
    (n_regp : PySem.W.nsIn K mainGlobals "REGISTER_PARTS" = some (some (.ref w_regp)))
    (t_regp : ktB K w_regp ((["d", "a", "maybe", "k"] : List Str).map V.str) = true)
    (n_cnts : PySem.W.nsIn K mainGlobals "COUNTS" = some (some (.ref w_cnts)))
    (t_cnts : ktB K w_cnts ((["p", "i", "t"] : List Str).map V.str) = true)
    (n_P : PySem.W.nsIn K mainGlobals "PARTS" = some (some (.ref aP)))
    (l_P : K.lookup aP = some ⟨.type "dict", none, .dict esP nP, #[]⟩)
    (y_P : PySem.W.KeysLit w.params esP.toList)
    (t_P : partsB K aP = true)
    (n_C : PySem.W.nsIn K mainGlobals "CHOICES" = some (some (.ref aC)))
    (l_C : K.lookup aC = some ⟨.type "dict", none, .dict esC nC, #[]⟩)
    (y_C : PySem.W.KeysLit w.params esC.toList)
    (z_C : (aC == sysModules) = false)
    (t_C : choB K aC = true)
    (k_C : PySem.W.nsIn K aC "keys" = some none)
    (m_C : PySem.W.nsIn K aC "members" = some none)
    (n_H : PySem.W.nsIn K mainGlobals "CHARS" = some (some (.ref aH)))
    (l_H : K.lookup aH = some ⟨.type "tuple", none, .seq #[.ref hb, .ref hc, .ref hd, .ref he] nH, slH⟩)
    (t_hb : ktB K hb [.int 32, .str (SX.S [32, 33])] = true)
    (t_hc : ktB K hc [.int 35, .str (SX.S [35, 36])] = true)
    (t_hd : ktB K hd [.int 38, .str (SX.S ((List.range 54).map (· + 38)))] = true)
    (t_he : ktB K he [.int 93, .str (SX.S ((List.range 34).map (· + 93)))] = true)
    (z_len : PySem.W.nsIn K mainGlobals "len" = some none)
    (z_isi : PySem.W.nsIn K mainGlobals "isinstance" = some none)
    (z_int : PySem.W.nsIn K mainGlobals "int" = some none)
    (z_str : PySem.W.nsIn K mainGlobals "str" = some none)
    (z_bool : PySem.W.nsIn K mainGlobals "bool" = some none)
    (z_tup : PySem.W.nsIn K mainGlobals "tuple" = some none)
    (z_list : PySem.W.nsIn K mainGlobals "list" = some none)
    (z_range : PySem.W.nsIn K mainGlobals "range" = some none)
    (z_all : PySem.W.nsIn K mainGlobals "all" = some none)
    (z_ord : PySem.W.nsIn K mainGlobals "ord" = some none)
    (z_abs : PySem.W.nsIn K mainGlobals "abs" = some none)
    (aCl : PySem.W.nsIn K mainGlobals "Bytes" = some (some (.ref C)))
    (pg : PySem.W.plainGet K C Str.empty = true)
    (hdi : PySem.W.hasDictIn K C = true)
    (po : PySem.W.plainOver K C = true)
    (sa : PySem.W.findIn K (.ref C) "__setattr__" = some (some (.builtin "object.__setattr__")))
    (nRow : PySem.W.findIn K (.ref C) "row" = some none)
    (nAt : PySem.W.findIn K (.ref C) "at" = some none)
    (mkC : PySem.W.makesIn K C = true)
    (kpC : PySem.W.keepIn K (.ref C) = true)
    (aCB : PySem.W.nsIn K mainGlobals "BadBytes" = some (some (.ref CB)))
    (xCB : PySem.W.excIn K CB bmV "ValueError.__new__" = true)
    (kpB : PySem.W.keepIn K (.ref CB) = true)
    (sbB : PySem.W.subIn K (.ref CB) (.type "BaseException") = some true)
    (tyB : PySem.W.typeIn K (.ref CB) = some (.type "type"))
    (eg : PySem.W.findIn K (.ref CB) "__getattribute__" = some (some (.builtin "BaseException.__getattribute__")))
    (ek : PySem.W.findIn K (.ref CB) "__getattr__" = some none)
    (ed : PySem.W.hasDictIn K CB = true)
    (ea : PySem.W.findIn K (.ref CB) "__class__" = some (some (.builtin "object.__class__")))
    (en : PySem.W.specialIn K (.builtin "object.__class__") "__get__" = some (some (.builtin "getset_descriptor.__get__")))
    (et : PySem.W.takesIn K (.builtin "object.__class__") = some true)
    (em : PySem.W.mroIn K CB (.type "object") = some true)
    (sbb : PySem.W.subIn K (.ref CB) (.ref CB) = some true)
    (aCE : PySem.W.nsIn K mainGlobals "CodeError" = some (some (.ref CE)))
    (kCE : PySem.W.kitOne K (.ref CB) (.ref CE) = some true)
    (aCS : PySem.W.nsIn K mainGlobals "BadStep" = some (some (.ref CS)))
    (kCS : PySem.W.kitOne K (.ref CB) (.ref CS) = some false)
    (a11 : PySem.W.nsIn K mainGlobals "is_count" = some (some (.ref f11)))
    (l11 : K.lookup f11 = some ⟨oc11, od11, .func (PySem.W.fnOf "is_count" "is_count" (defArgs sIC) (defBody sIC) (defScope sIC) .none kV11 dc11 pm11 an11 cd11 ct11), sl11⟩)
    (c11 : PySem.W.codeIn K cd11 "is_count" = true)
    (k11 : PySem.W.keepIn K (.ref f11) = true)
    (a12 : PySem.W.nsIn K mainGlobals "is_text" = some (some (.ref f12)))
    (l12 : K.lookup f12 = some ⟨oc12, od12, .func (PySem.W.fnOf "is_text" "is_text" (defArgs sIT) (defBody sIT) (defScope sIT) .none kV12 dc12 pm12 an12 cd12 ct12), sl12⟩)
    (c12 : PySem.W.codeIn K cd12 "is_text" = true)
    (k12 : PySem.W.keepIn K (.ref f12) = true)
    (a13 : PySem.W.nsIn K mainGlobals "is_value" = some (some (.ref f13)))
    (l13 : K.lookup f13 = some ⟨oc13, od13, .func (PySem.W.fnOf "is_value" "is_value" (defArgs sIV) (defBody sIV) (defScope sIV) .none kV13 dc13 pm13 an13 cd13 ct13), sl13⟩)
    (c13 : PySem.W.codeIn K cd13 "is_value" = true)
    (k13 : PySem.W.keepIn K (.ref f13) = true)
    (a14 : PySem.W.nsIn K mainGlobals "are_places" = some (some (.ref f14)))
    (l14 : K.lookup f14 = some ⟨oc14, od14, .func (PySem.W.fnOf "are_places" "are_places" (defArgs sAP) (defBody sAP) (defScope sAP) .none kV14 dc14 pm14 an14 cd14 ct14), sl14⟩)
    (c14 : PySem.W.codeIn K cd14 "are_places" = true)
    (k14 : PySem.W.keepIn K (.ref f14) = true)
    (a15 : PySem.W.nsIn K mainGlobals "is_word" = some (some (.ref f15)))
    (l15 : K.lookup f15 = some ⟨oc15, od15, .func (PySem.W.fnOf "is_word" "is_word" (defArgs sIW) (defBody sIW) (defScope sIW) .none kV15 dc15 pm15 an15 cd15 ct15), sl15⟩)
    (c15 : PySem.W.codeIn K cd15 "is_word" = true)
    (k15 : PySem.W.keepIn K (.ref f15) = true)
    (a16 : PySem.W.nsIn K mainGlobals "is_part" = some (some (.ref f16)))
    (l16 : K.lookup f16 = some ⟨oc16, od16, .func (PySem.W.fnOf "is_part" "is_part" (defArgs sIP) (defBody sIP) (defScope sIP) .none kV16 dc16 pm16 an16 cd16 ct16), sl16⟩)
    (c16 : PySem.W.codeIn K cd16 "is_part" = true)
    (k16 : PySem.W.keepIn K (.ref f16) = true)
    (a17 : PySem.W.nsIn K mainGlobals "is_row" = some (some (.ref f17)))
    (l17 : K.lookup f17 = some ⟨oc17, od17, .func (PySem.W.fnOf "is_row" "is_row" (defArgs sIR) (defBody sIR) (defScope sIR) .none kV17 dc17 pm17 an17 cd17 ct17), sl17⟩)
    (c17 : PySem.W.codeIn K cd17 "is_row" = true)
    (k17 : PySem.W.keepIn K (.ref f17) = true)
    (a18 : PySem.W.nsIn K mainGlobals "has_form" = some (some (.ref f18)))
    (l18 : K.lookup f18 = some ⟨oc18, od18, .func (PySem.W.fnOf "has_form" "has_form" (defArgs sHF) (defBody sHF) (defScope sHF) .none kV18 dc18 pm18 an18 cd18 ct18), sl18⟩)
    (c18 : PySem.W.codeIn K cd18 "has_form" = true)
    (k18 : PySem.W.keepIn K (.ref f18) = true)
    (a30 : PySem.W.nsIn K mainGlobals "count_bytes" = some (some (.ref f30)))
    (l30 : K.lookup f30 = some ⟨oc30, od30, .func (PySem.W.fnOf "count_bytes" "count_bytes" (defArgs sCB) (defBody sCB) (defScope sCB) .none kV30 dc30 pm30 an30 cd30 ct30), sl30⟩)
    (c30 : PySem.W.codeIn K cd30 "count_bytes" = true)
    (k30 : PySem.W.keepIn K (.ref f30) = true)
    (a31 : PySem.W.nsIn K mainGlobals "value_bytes" = some (some (.ref f31)))
    (l31 : K.lookup f31 = some ⟨oc31, od31, .func (PySem.W.fnOf "value_bytes" "value_bytes" (defArgs sVB) (defBody sVB) (defScope sVB) .none kV31 dc31 pm31 an31 cd31 ct31), sl31⟩)
    (c31 : PySem.W.codeIn K cd31 "value_bytes" = true)
    (k31 : PySem.W.keepIn K (.ref f31) = true)
    (a32 : PySem.W.nsIn K mainGlobals "part_bytes" = some (some (.ref f32)))
    (l32 : K.lookup f32 = some ⟨oc32, od32, .func (PySem.W.fnOf "part_bytes" "part_bytes" (defArgs sPB) (defBody sPB) (defScope sPB) .none kV32 dc32 pm32 an32 cd32 ct32), sl32⟩)
    (c32 : PySem.W.codeIn K cd32 "part_bytes" = true)
    (k32 : PySem.W.keepIn K (.ref f32) = true)
    (a33 : PySem.W.nsIn K mainGlobals "write_bytes" = some (some (.ref f33)))
    (l33 : K.lookup f33 = some ⟨oc33, od33, .func (PySem.W.fnOf "write_bytes" "write_bytes" (defArgs sWB) (defBody sWB) (defScope sWB) .none kV33 dc33 pm33 an33 cd33 ct33), sl33⟩)
    (c33 : PySem.W.codeIn K cd33 "write_bytes" = true)
    (k33 : PySem.W.keepIn K (.ref f33) = true)
    (aI : PySem.W.findIn K (.ref C) "__init__" = some (some (.ref fI)))
    (bI : PySem.W.isFn K (.ref fI) = true)
    (lI : K.lookup fI = some ⟨ocI, odI, .func (PySem.W.fnOf "__init__" "Bytes.__init__" (defArgs sBI) (defBody sBI) (defScope sBI) .none kVI dcI pmI anI cdI ctI), slI⟩)
    (cI : PySem.W.codeIn K cdI "Bytes.__init__" = true)
    (kI : PySem.W.keepIn K (.ref fI) = true)
    (aM1 : PySem.W.findIn K (.ref C) "take" = some (some (.ref fM1)))
    (bM1 : PySem.W.isFn K (.ref fM1) = true)
    (lM1 : K.lookup fM1 = some ⟨ocM1, odM1, .func (PySem.W.fnOf "take" "Bytes.take" (defArgs sTK) (defBody sTK) (defScope sTK) .none kVM1 dcM1 pmM1 anM1 cdM1 ctM1), slM1⟩)
    (cM1 : PySem.W.codeIn K cdM1 "Bytes.take" = true)
    (kM1 : PySem.W.keepIn K (.ref fM1) = true)
    (aM2 : PySem.W.findIn K (.ref C) "choice" = some (some (.ref fM2)))
    (bM2 : PySem.W.isFn K (.ref fM2) = true)
    (lM2 : K.lookup fM2 = some ⟨ocM2, odM2, .func (PySem.W.fnOf "choice" "Bytes.choice" (defArgs sCH) (defBody sCH) (defScope sCH) .none kVM2 dcM2 pmM2 anM2 cdM2 ctM2), slM2⟩)
    (cM2 : PySem.W.codeIn K cdM2 "Bytes.choice" = true)
    (kM2 : PySem.W.keepIn K (.ref fM2) = true)
    (aM3 : PySem.W.findIn K (.ref C) "count" = some (some (.ref fM3)))
    (bM3 : PySem.W.isFn K (.ref fM3) = true)
    (lM3 : K.lookup fM3 = some ⟨ocM3, odM3, .func (PySem.W.fnOf "count" "Bytes.count" (defArgs sCT) (defBody sCT) (defScope sCT) .none kVM3 dcM3 pmM3 anM3 cdM3 ctM3), slM3⟩)
    (cM3 : PySem.W.codeIn K cdM3 "Bytes.count" = true)
    (kM3 : PySem.W.keepIn K (.ref fM3) = true)
    (aM4 : PySem.W.findIn K (.ref C) "char" = some (some (.ref fM4)))
    (bM4 : PySem.W.isFn K (.ref fM4) = true)
    (lM4 : K.lookup fM4 = some ⟨ocM4, odM4, .func (PySem.W.fnOf "char" "Bytes.char" (defArgs sCR) (defBody sCR) (defScope sCR) .none kVM4 dcM4 pmM4 anM4 cdM4 ctM4), slM4⟩)
    (cM4 : PySem.W.codeIn K cdM4 "Bytes.char" = true)
    (kM4 : PySem.W.keepIn K (.ref fM4) = true)
    (aM5 : PySem.W.findIn K (.ref C) "value" = some (some (.ref fM5)))
    (bM5 : PySem.W.isFn K (.ref fM5) = true)
    (lM5 : K.lookup fM5 = some ⟨ocM5, odM5, .func (PySem.W.fnOf "value" "Bytes.value" (defArgs sVL) (defBody sVL) (defScope sVL) .none kVM5 dcM5 pmM5 anM5 cdM5 ctM5), slM5⟩)
    (cM5 : PySem.W.codeIn K cdM5 "Bytes.value" = true)
    (kM5 : PySem.W.keepIn K (.ref fM5) = true)
    (aM6 : PySem.W.findIn K (.ref C) "part" = some (some (.ref fM6)))
    (bM6 : PySem.W.isFn K (.ref fM6) = true)
    (lM6 : K.lookup fM6 = some ⟨ocM6, odM6, .func (PySem.W.fnOf "part" "Bytes.part" (defArgs sPT) (defBody sPT) (defScope sPT) .none kVM6 dcM6 pmM6 anM6 cdM6 ctM6), slM6⟩)
    (cM6 : PySem.W.codeIn K cdM6 "Bytes.part" = true)
    (kM6 : PySem.W.keepIn K (.ref fM6) = true)
    (aM7 : PySem.W.findIn K (.ref C) "code_row" = some (some (.ref fM7)))
    (bM7 : PySem.W.isFn K (.ref fM7) = true)
    (lM7 : K.lookup fM7 = some ⟨ocM7, odM7, .func (PySem.W.fnOf "code_row" "Bytes.code_row" (defArgs sRW) (defBody sRW) (defScope sRW) .none kVM7 dcM7 pmM7 anM7 cdM7 ctM7), slM7⟩)
    (cM7 : PySem.W.codeIn K cdM7 "Bytes.code_row" = true)
    (kM7 : PySem.W.keepIn K (.ref fM7) = true)
    (a35 : PySem.W.nsIn K mainGlobals "read_bytes" = some (some (.ref f35)))
    (l35 : K.lookup f35 = some ⟨oc35, od35, .func (PySem.W.fnOf "read_bytes" "read_bytes" (defArgs sRB) (defBody sRB) (defScope sRB) .none kV35 dc35 pm35 an35 cd35 ct35), sl35⟩)
    (c35 : PySem.W.codeIn K cd35 "read_bytes" = true)
    (k35 : PySem.W.keepIn K (.ref f35) = true)
    (a37 : PySem.W.nsIn K mainGlobals "_law_draws" = some (some (.ref f37)))
    (l37 : K.lookup f37 = some ⟨oc37, od37, .func (PySem.W.fnOf "_law_draws" "_law_draws" (defArgs sLD) (defBody sLD) (defScope sLD) .none kV37 dc37 pm37 an37 cd37 ct37), sl37⟩)
    (c37 : PySem.W.codeIn K cd37 "_law_draws" = true)
    (k37 : PySem.W.keepIn K (.ref f37) = true)
    (a38 : PySem.W.nsIn K mainGlobals "_law_take" = some (some (.ref f38)))
    (l38 : K.lookup f38 = some ⟨oc38, od38, .func (PySem.W.fnOf "_law_take" "_law_take" (defArgs sLT) (defBody sLT) (defScope sLT) .none kV38 dc38 pm38 an38 cd38 ct38), sl38⟩)
    (c38 : PySem.W.codeIn K cd38 "_law_take" = true)
    (k38 : PySem.W.keepIn K (.ref f38) = true)
    (a39 : PySem.W.nsIn K mainGlobals "_law_start" = some (some (.ref f39)))
    (l39 : K.lookup f39 = some ⟨oc39, od39, .func (PySem.W.fnOf "_law_start" "_law_start" (defArgs sLS) (defBody sLS) (defScope sLS) .none kV39 dc39 pm39 an39 cd39 ct39), sl39⟩)
    (c39 : PySem.W.codeIn K cd39 "_law_start" = true)
    (k39 : PySem.W.keepIn K (.ref f39) = true)
    (a40 : PySem.W.nsIn K mainGlobals "_law_place" = some (some (.ref f40)))
    (l40 : K.lookup f40 = some ⟨oc40, od40, .func (PySem.W.fnOf "_law_place" "_law_place" (defArgs sLP) (defBody sLP) (defScope sLP) .none kV40 dc40 pm40 an40 cd40 ct40), sl40⟩)
    (c40 : PySem.W.codeIn K cd40 "_law_place" = true)
    (k40 : PySem.W.keepIn K (.ref f40) = true)
    (a41 : PySem.W.nsIn K mainGlobals "_law_places" = some (some (.ref f41)))
    (l41 : K.lookup f41 = some ⟨oc41, od41, .func (PySem.W.fnOf "_law_places" "_law_places" (defArgs sLQ) (defBody sLQ) (defScope sLQ) .none kV41 dc41 pm41 an41 cd41 ct41), sl41⟩)
    (c41 : PySem.W.codeIn K cd41 "_law_places" = true)
    (k41 : PySem.W.keepIn K (.ref f41) = true)
    (a42 : PySem.W.nsIn K mainGlobals "_law_value" = some (some (.ref f42)))
    (l42 : K.lookup f42 = some ⟨oc42, od42, .func (PySem.W.fnOf "_law_value" "_law_value" (defArgs sLV) (defBody sLV) (defScope sLV) .none kV42 dc42 pm42 an42 cd42 ct42), sl42⟩)
    (c42 : PySem.W.codeIn K cd42 "_law_value" = true)
    (k42 : PySem.W.keepIn K (.ref f42) = true)
    (a43 : PySem.W.nsIn K mainGlobals "_law_row" = some (some (.ref f43)))
    (l43 : K.lookup f43 = some ⟨oc43, od43, .func (PySem.W.fnOf "_law_row" "_law_row" (defArgs sLR) (defBody sLR) (defScope sLR) .none kV43 dc43 pm43 an43 cd43 ct43), sl43⟩)
    (c43 : PySem.W.codeIn K cd43 "_law_row" = true)
    (k43 : PySem.W.keepIn K (.ref f43) = true)
    (a44 : PySem.W.nsIn K mainGlobals "_law_code" = some (some (.ref f44)))
    (l44 : K.lookup f44 = some ⟨oc44, od44, .func (PySem.W.fnOf "_law_code" "_law_code" (defArgs sLC) (defBody sLC) (defScope sLC) .none kV44 dc44 pm44 an44 cd44 ct44), sl44⟩)
    (c44 : PySem.W.codeIn K cd44 "_law_code" = true)
    (k44 : PySem.W.keepIn K (.ref f44) = true)
    (a45 : PySem.W.nsIn K mainGlobals "_law_is_count" = some (some (.ref f45)))
    (l45 : K.lookup f45 = some ⟨oc45, od45, .func (PySem.W.fnOf "_law_is_count" "_law_is_count" (defArgs sQC) (defBody sQC) (defScope sQC) .none kV45 dc45 pm45 an45 cd45 ct45), sl45⟩)
    (c45 : PySem.W.codeIn K cd45 "_law_is_count" = true)
    (k45 : PySem.W.keepIn K (.ref f45) = true)
    (a46 : PySem.W.nsIn K mainGlobals "_law_is_value" = some (some (.ref f46)))
    (l46 : K.lookup f46 = some ⟨oc46, od46, .func (PySem.W.fnOf "_law_is_value" "_law_is_value" (defArgs sQV) (defBody sQV) (defScope sQV) .none kV46 dc46 pm46 an46 cd46 ct46), sl46⟩)
    (c46 : PySem.W.codeIn K cd46 "_law_is_value" = true)
    (k46 : PySem.W.keepIn K (.ref f46) = true)
    (a47 : PySem.W.nsIn K mainGlobals "_law_sorts" = some (some (.ref f47)))
    (l47 : K.lookup f47 = some ⟨oc47, od47, .func (PySem.W.fnOf "_law_sorts" "_law_sorts" (defArgs sQS) (defBody sQS) (defScope sQS) .none kV47 dc47 pm47 an47 cd47 ct47), sl47⟩)
    (c47 : PySem.W.codeIn K cd47 "_law_sorts" = true)
    (k47 : PySem.W.keepIn K (.ref f47) = true)
    (a48 : PySem.W.nsIn K mainGlobals "_law_is_part" = some (some (.ref f48)))
    (l48 : K.lookup f48 = some ⟨oc48, od48, .func (PySem.W.fnOf "_law_is_part" "_law_is_part" (defArgs sQP) (defBody sQP) (defScope sQP) .none kV48 dc48 pm48 an48 cd48 ct48), sl48⟩)
    (c48 : PySem.W.codeIn K cd48 "_law_is_part" = true)
    (k48 : PySem.W.keepIn K (.ref f48) = true)
    (a49 : PySem.W.nsIn K mainGlobals "_law_is_row" = some (some (.ref f49)))
    (l49 : K.lookup f49 = some ⟨oc49, od49, .func (PySem.W.fnOf "_law_is_row" "_law_is_row" (defArgs sQR) (defBody sQR) (defScope sQR) .none kV49 dc49 pm49 an49 cd49 ct49), sl49⟩)
    (c49 : PySem.W.codeIn K cd49 "_law_is_row" = true)
    (k49 : PySem.W.keepIn K (.ref f49) = true)
    (a50 : PySem.W.nsIn K mainGlobals "_law_is_code" = some (some (.ref f50)))
    (l50 : K.lookup f50 = some ⟨oc50, od50, .func (PySem.W.fnOf "_law_is_code" "_law_is_code" (defArgs sQK) (defBody sQK) (defScope sQK) .none kV50 dc50 pm50 an50 cd50 ct50), sl50⟩)
    (c50 : PySem.W.codeIn K cd50 "_law_is_code" = true)
    (k50 : PySem.W.keepIn K (.ref f50) = true)
    (a51 : PySem.W.nsIn K mainGlobals "_law_count" = some (some (.ref f51)))
    (l51 : K.lookup f51 = some ⟨oc51, od51, .func (PySem.W.fnOf "_law_count" "_law_count" (defArgs sLN) (defBody sLN) (defScope sLN) .none kV51 dc51 pm51 an51 cd51 ct51), sl51⟩)
    (c51 : PySem.W.codeIn K cd51 "_law_count" = true)
    (k51 : PySem.W.keepIn K (.ref f51) = true)
    (a52 : PySem.W.nsIn K mainGlobals "_law_part" = some (some (.ref f52)))
    (l52 : K.lookup f52 = some ⟨oc52, od52, .func (PySem.W.fnOf "_law_part" "_law_part" (defArgs sLPt) (defBody sLPt) (defScope sLPt) .none kV52 dc52 pm52 an52 cd52 ct52), sl52⟩)
    (c52 : PySem.W.codeIn K cd52 "_law_part" = true)
    (k52 : PySem.W.keepIn K (.ref f52) = true)
    (a53 : PySem.W.nsIn K mainGlobals "_law_bytes" = some (some (.ref f53)))
    (l53 : K.lookup f53 = some ⟨oc53, od53, .func (PySem.W.fnOf "_law_bytes" "_law_bytes" (defArgs sLB) (defBody sLB) (defScope sLB) .none kV53 dc53 pm53 an53 cd53 ct53), sl53⟩)
    (c53 : PySem.W.codeIn K cd53 "_law_bytes" = true)
    (k53 : PySem.W.keepIn K (.ref f53) = true)
    (a54 : PySem.W.nsIn K mainGlobals "_law_other" = some (some (.ref f54)))
    (l54 : K.lookup f54 = some ⟨oc54, od54, .func (PySem.W.fnOf "_law_other" "_law_other" (defArgs sLO) (defBody sLO) (defScope sLO) .none kV54 dc54 pm54 an54 cd54 ct54), sl54⟩)
    (c54 : PySem.W.codeIn K cd54 "_law_other" = true)
    (k54 : PySem.W.keepIn K (.ref f54) = true)
    (a55 : PySem.W.nsIn K mainGlobals "_law_right" = some (some (.ref f55)))
    (l55 : K.lookup f55 = some ⟨oc55, od55, .func (PySem.W.fnOf "_law_right" "_law_right" (defArgs sRT) (defBody sRT) (defScope sRT) .none kV55 dc55 pm55 an55 cd55 ct55), sl55⟩)
    (c55 : PySem.W.codeIn K cd55 "_law_right" = true)
    (k55 : PySem.W.keepIn K (.ref f55) = true)
    (a56 : PySem.W.nsIn K mainGlobals "law" = some (some (.ref f56)))
    (l56 : K.lookup f56 = some ⟨oc56, od56, .func (PySem.W.fnOf "law" "law" (defArgs sLaw) (defBody sLaw) (defScope sLaw) .none kV56 dc56 pm56 an56 cd56 ct56), sl56⟩)
    (c56 : PySem.W.codeIn K cd56 "law" = true)
    (k56 : PySem.W.keepIn K (.ref f56) = true) :
    ∃ fd : FuncData, (∀ (s : Shared) (v : Value), BindsTo s fd ⟨[v], []⟩ [("_law_script", v)]) ∧ ∀ base : Heap, K.In base → base.Ns mainGlobals mg → FnOk l.prog w K mg base CX0 8 fa fd ["_law_script"] (spLaw K) := by
  have e0 := hfa.symm.trans (PySem.W.mg_of X G a56)
  cases e0
  have T : Txt w K mg :=
    { rng := ⟨_, PySem.W.mg_of X G i_rng, ⟨_, rfl⟩⟩,
      half := ⟨_, PySem.W.mg_of X G i_half, ⟨_, rfl⟩⟩,
      longest := ⟨_, PySem.W.mg_of X G i_longest, ⟨_, rfl⟩⟩,
      regs := ⟨_, PySem.W.mg_of X G i_regs, ⟨_, rfl⟩⟩,
      words := ⟨_, PySem.W.mg_of X G n_words, ktB_ok t_words (by decide)⟩,
      views := ⟨_, PySem.W.mg_of X G n_views, ktB_ok t_views (by decide)⟩,
      signs := ⟨_, PySem.W.mg_of X G n_signs, ktB_ok t_signs (by decide)⟩,
      comps := ⟨_, PySem.W.mg_of X G n_comps, ktB_ok t_comps (by decide)⟩,
      sorts := ⟨_, PySem.W.mg_of X G n_sorts, ktB_ok t_sorts (by decide)⟩,
      kinds := ⟨_, PySem.W.mg_of X G n_kinds, ktB_ok t_kinds (by decide)⟩,
      regp := ⟨_, PySem.W.mg_of X G n_regp, ktB_ok t_regp (by decide)⟩,
      cnts := ⟨_, PySem.W.mg_of X G n_cnts, ktB_ok t_cnts (by decide)⟩,
      parts := ⟨aP, PySem.W.mg_of X G n_P, fun j hj => by
        obtain ⟨t, h1, h2⟩ := partsB_ok t_P j hj
        exact ⟨t, ⟨esP, nP, _, l_P, y_P, h1, rfl⟩, h2⟩⟩,
      chs := ⟨aC, esC, nC, PySem.W.mg_of X G n_C, ⟨l_C, y_C, z_C⟩, choB_ok t_C, k_C, m_C⟩,
      chars := ⟨aH, hb, hc, hd, he, PySem.W.mg_of X G n_H, ⟨_, _, _, l_H, small (by show 4 ≤ 1000000; decide), .cons rfl (.cons rfl (.cons rfl (.cons rfl .nil)))⟩, ktB_ok t_hb (by decide), ktB_ok t_hc (by decide), ktB_ok t_hd (by decide), ktB_ok t_he (by decide)⟩,
      len := PySem.W.mg_none_of X G z_len,
      isi := PySem.W.mg_none_of X G z_isi,
      int := PySem.W.mg_none_of X G z_int,
      str := PySem.W.mg_none_of X G z_str,
      bool := PySem.W.mg_none_of X G z_bool,
      tup := PySem.W.mg_none_of X G z_tup,
      list := PySem.W.mg_none_of X G z_list,
      range := PySem.W.mg_none_of X G z_range,
      all := PySem.W.mg_none_of X G z_all,
      ord := PySem.W.mg_none_of X G z_ord,
      abs := PySem.W.mg_none_of X G z_abs }
  have B : TxtB w K mg C CB := ⟨⟨pg, hdi, po, sa⟩, nRow, nAt, PySem.W.mg_of X G aCl, PySem.W.mg_of X G aCB, xCB, kpB, sbB, tyB⟩
  have R : TxtR K mg CB := ⟨⟨eg, ek, sbB, ed, ea, en, et, em⟩, PySem.W.exm_ref sbB ed tyB sbb, ⟨CE, PySem.W.mg_of X G aCE, kCE⟩, ⟨CS, PySem.W.mg_of X G aCS, kCS⟩⟩
  have F56 := fun_mk (st := sLaw) l56 c56 k56
  have F11 := fun_mk (st := sIC) l11 c11 k11
  have B11 := F11.binds (ps := ["thing", "most"]) fun _ _ _ _ _ _ us hl => match us, hl with | [_, _], _ => rfl
  have F12 := fun_mk (st := sIT) l12 c12 k12
  have B12 := F12.binds (ps := ["thing"]) fun _ _ _ _ _ _ us hl => match us, hl with | [_], _ => rfl
  have F13 := fun_mk (st := sIV) l13 c13 k13
  have B13 := F13.binds (ps := ["thing"]) fun _ _ _ _ _ _ us hl => match us, hl with | [_], _ => rfl
  have F14 := fun_mk (st := sAP) l14 c14 k14
  have B14 := F14.binds (ps := ["thing", "many", "most"]) fun _ _ _ _ _ _ us hl => match us, hl with | [_, _, _], _ => rfl
  have F15 := fun_mk (st := sIW) l15 c15 k15
  have B15 := F15.binds (ps := ["thing", "words"]) fun _ _ _ _ _ _ us hl => match us, hl with | [_, _], _ => rfl
  have F16 := fun_mk (st := sIP) l16 c16 k16
  have B16 := F16.binds (ps := ["sort", "thing", "most"]) fun _ _ _ _ _ _ us hl => match us, hl with | [_, _, _], _ => rfl
  have F17 := fun_mk (st := sIR) l17 c17 k17
  have B17 := F17.binds (ps := ["thing", "most"]) fun _ _ _ _ _ _ us hl => match us, hl with | [_, _], _ => rfl
  have F18 := fun_mk (st := sHF) l18 c18 k18
  have B18 := F18.binds (ps := ["thing", "most"]) fun _ _ _ _ _ _ us hl => match us, hl with | [_, _], _ => rfl
  have F30 := fun_mk (st := sCB) l30 c30 k30
  have B30 := F30.binds (ps := ["number"]) fun _ _ _ _ _ _ us hl => match us, hl with | [_], _ => rfl
  have F31 := fun_mk (st := sVB) l31 c31 k31
  have B31 := F31.binds (ps := ["value"]) fun _ _ _ _ _ _ us hl => match us, hl with | [_], _ => rfl
  have F32 := fun_mk (st := sPB) l32 c32 k32
  have B32 := F32.binds (ps := ["sort", "part"]) fun _ _ _ _ _ _ us hl => match us, hl with | [_, _], _ => rfl
  have F33 := fun_mk (st := sWB) l33 c33 k33
  have B33 := F33.binds (ps := ["code"]) fun _ _ _ _ _ _ us hl => match us, hl with | [_], _ => rfl
  have F37 := fun_mk (st := sLD) l37 c37 k37
  have B37 := F37.binds (ps := ["_law_script", "_law_many"]) fun _ _ _ _ _ _ us hl => match us, hl with | [_, _], _ => rfl
  have F38 := fun_mk (st := sLT) l38 c38 k38
  have B38 := F38.binds (ps := ["_law_d"]) fun _ _ _ _ _ _ us hl => match us, hl with | [_], _ => rfl
  have F39 := fun_mk (st := sLS) l39 c39 k39
  have B39 := F39.binds (ps := ["_law_script"]) fun _ _ _ _ _ _ us hl => match us, hl with | [_], _ => rfl
  have F40 := fun_mk (st := sLP) l40 c40 k40
  have B40 := F40.binds (ps := ["_law_d"]) fun _ _ _ _ _ _ us hl => match us, hl with | [_], _ => rfl
  have F41 := fun_mk (st := sLQ) l41 c41 k41
  have B41 := F41.binds (ps := ["_law_d", "_law_most"]) fun _ _ _ _ _ _ us hl => match us, hl with | [_, _], _ => rfl
  have F42 := fun_mk (st := sLV) l42 c42 k42
  have B42 := F42.binds (ps := ["_law_d"]) fun _ _ _ _ _ _ us hl => match us, hl with | [_], _ => rfl
  have F43 := fun_mk (st := sLR) l43 c43 k43
  have B43 := F43.binds (ps := ["_law_d", "_law_many"]) fun _ _ _ _ _ _ us hl => match us, hl with | [_, _], _ => rfl
  have F44 := fun_mk (st := sLC) l44 c44 k44
  have B44 := F44.binds (ps := ["_law_d"]) fun _ _ _ _ _ _ us hl => match us, hl with | [_], _ => rfl
  have F45 := fun_mk (st := sQC) l45 c45 k45
  have B45 := F45.binds (ps := ["_law_thing", "_law_most"]) fun _ _ _ _ _ _ us hl => match us, hl with | [_, _], _ => rfl
  have F46 := fun_mk (st := sQV) l46 c46 k46
  have B46 := F46.binds (ps := ["_law_thing"]) fun _ _ _ _ _ _ us hl => match us, hl with | [_], _ => rfl
  have F47 := fun_mk (st := sQS) l47 c47 k47
  have B47 := F47.binds (ps := []) fun _ _ _ _ _ _ us hl => match us, hl with | [], _ => rfl
  have F48 := fun_mk (st := sQP) l48 c48 k48
  have B48 := F48.binds (ps := ["_law_sort", "_law_thing"]) fun _ _ _ _ _ _ us hl => match us, hl with | [_, _], _ => rfl
  have F49 := fun_mk (st := sQR) l49 c49 k49
  have B49 := F49.binds (ps := ["_law_thing"]) fun _ _ _ _ _ _ us hl => match us, hl with | [_], _ => rfl
  have F50 := fun_mk (st := sQK) l50 c50 k50
  have B50 := F50.binds (ps := ["_law_thing"]) fun _ _ _ _ _ _ us hl => match us, hl with | [_], _ => rfl
  have F51 := fun_mk (st := sLN) l51 c51 k51
  have B51 := F51.binds (ps := ["_law_n"]) fun _ _ _ _ _ _ us hl => match us, hl with | [_], _ => rfl
  have F52 := fun_mk (st := sLPt) l52 c52 k52
  have B52 := F52.binds (ps := ["_law_sort", "_law_part_here"]) fun _ _ _ _ _ _ us hl => match us, hl with | [_, _], _ => rfl
  have F53 := fun_mk (st := sLB) l53 c53 k53
  have B53 := F53.binds (ps := ["_law_code_here"]) fun _ _ _ _ _ _ us hl => match us, hl with | [_], _ => rfl
  have F54 := fun_mk (st := sLO) l54 c54 k54
  have B54 := F54.binds (ps := ["_law_d", "_law_row_here"]) fun _ _ _ _ _ _ us hl => match us, hl with | [_, _], _ => rfl
  have F55 := fun_mk (st := sRT) l55 c55 k55
  have B55 := F55.binds (ps := ["_law_row_here"]) fun _ _ _ _ _ _ us hl => match us, hl with | [_], _ => rfl
  have FM1 := fun_mk (st := sTK) lM1 cM1 kM1
  have BM1 := FM1.binds (ps := ["self"]) fun _ _ _ _ _ _ us hl => match us, hl with | [_], _ => rfl
  have FM2 := fun_mk (st := sCH) lM2 cM2 kM2
  have BM2 := FM2.binds (ps := ["self", "words"]) fun _ _ _ _ _ _ us hl => match us, hl with | [_, _], _ => rfl
  have FM3 := fun_mk (st := sCT) lM3 cM3 kM3
  have BM3 := FM3.binds (ps := ["self"]) fun _ _ _ _ _ _ us hl => match us, hl with | [_], _ => rfl
  have FM4 := fun_mk (st := sCR) lM4 cM4 kM4
  have BM4 := FM4.binds (ps := ["self"]) fun _ _ _ _ _ _ us hl => match us, hl with | [_], _ => rfl
  have FM5 := fun_mk (st := sVL) lM5 cM5 kM5
  have BM5 := FM5.binds (ps := ["self"]) fun _ _ _ _ _ _ us hl => match us, hl with | [_], _ => rfl
  have FM6 := fun_mk (st := sPT) lM6 cM6 kM6
  have BM6 := FM6.binds (ps := ["self", "sort"]) fun _ _ _ _ _ _ us hl => match us, hl with | [_, _], _ => rfl
  have FM7 := fun_mk (st := sRW) lM7 cM7 kM7
  have BM7 := FM7.binds (ps := ["self"]) fun _ _ _ _ _ _ us hl => match us, hl with | [_], _ => rfl
  have FI := fun_mk (st := sBI) lI cI kI
  have BI := FI.binds (ps := ["self", "row"]) fun _ _ _ _ _ _ us hl => match us, hl with | [_, _], _ => rfl
  have F35 := fun_mk (st := sRB) l35 c35 k35
  have B35 := F35.binds (ps := ["row"]) fun _ _ _ _ _ _ us hl => match us, hl with | [_], _ => rfl
  refine ⟨PySem.W.fnOf "law" "law" (defArgs sLaw) (defBody sLaw) (defScope sLaw) .none kV56 dc56 pm56 an56 cd56 ct56, fun s v => .of_eq rfl, fun base _ _ => ?_⟩
  have C11 : C8.Cal l.prog w K mg base 1 "is_count" spIC [] := ⟨f11, _, _, [], ok_ic F11 T, PySem.W.mg_of X G a11, k11, B11, .nil⟩
  have C12 : C8.Cal l.prog w K mg base 1 "is_text" spIT [] := ⟨f12, _, _, [], ok_it F12 T, PySem.W.mg_of X G a12, k12, B12, .nil⟩
  have C13 : C8.Cal l.prog w K mg base 2 "is_value" (spIV K) [] := ⟨f13, _, _, [], ok_iv F13 T C12, PySem.W.mg_of X G a13, k13, B13, .nil⟩
  have C14 : C8.Cal l.prog w K mg base 2 "are_places" (spAP K) [] := ⟨f14, _, _, [], ok_ap F14 T C11, PySem.W.mg_of X G a14, k14, B14, .nil⟩
  have C15 : C8.Cal l.prog w K mg base 1 "is_word" (spIW K) [] := ⟨f15, _, _, [], ok_iw F15 T, PySem.W.mg_of X G a15, k15, B15, .nil⟩
  have C16 : C8.Cal l.prog w K mg base 3 "is_part" (spIP K) [] := ⟨f16, _, _, [], ok_ip F16 T C11 C13 C14 C15, PySem.W.mg_of X G a16, k16, B16, .nil⟩
  have C17 : C8.Cal l.prog w K mg base 4 "is_row" (spIR K) [] := ⟨f17, _, _, [], ok_ir F17 T C15 C16, PySem.W.mg_of X G a17, k17, B17, .nil⟩
  have C18 : C8.Cal l.prog w K mg base 5 "has_form" (spHF K) [] := ⟨f18, _, _, [], ok_hf F18 T C15 C17, PySem.W.mg_of X G a18, k18, B18, .nil⟩
  have C30 : C8.Cal l.prog w K mg base 1 "count_bytes" spCB [] := ⟨f30, _, _, [], ok_cb F30 , PySem.W.mg_of X G a30, k30, B30, .nil⟩
  have C31 : C8.Cal l.prog w K mg base 2 "value_bytes" (spVB K) [] := ⟨f31, _, _, [], ok_vb F31 T C30, PySem.W.mg_of X G a31, k31, B31, .nil⟩
  have C32 : C8.Cal l.prog w K mg base 3 "part_bytes" (spPB K) [] := ⟨f32, _, _, [], ok_pb F32 T C30 C31, PySem.W.mg_of X G a32, k32, B32, .nil⟩
  have C33 : C8.Cal l.prog w K mg base 4 "write_bytes" (spWB K) [] := ⟨f33, _, _, [], ok_wb F33 T C30 C32, PySem.W.mg_of X G a33, k33, B33, .nil⟩
  have CMk : C8.Mak l.prog w K mg base 1 "Bytes" C (spBI C) [] := ⟨fI, _, _, [], ⟨mkC, aI, bI, kpC⟩, ok_bi FI T B, PySem.W.mg_of X G aCl, BI, .nil⟩
  have CM1 : CalX l.prog w K mg base 1 C "take" (spRd K C CB dI pTake) := ⟨fM1, _, _, B.cl, ⟨aM1, bM1, kM1⟩, ok_tk FM1 T B, BM1⟩
  have CM2 : CalX l.prog w K mg base 2 C "choice" (spCH K C CB) := ⟨fM2, _, _, B.cl, ⟨aM2, bM2, kM2⟩, ok_ch FM2 T B CM1, BM2⟩
  have CM3 : CalX l.prog w K mg base 2 C "count" (spRd K C CB dI pCnt) := ⟨fM3, _, _, B.cl, ⟨aM3, bM3, kM3⟩, ok_ct FM3 T B CM1, BM3⟩
  have CM4 : CalX l.prog w K mg base 2 C "char" (spRd K C CB datCh pChar) := ⟨fM4, _, _, B.cl, ⟨aM4, bM4, kM4⟩, ok_cr FM4 T B CM1, BM4⟩
  have CM5 : CalX l.prog w K mg base 3 C "value" (spRd K C CB datP pVal) := ⟨fM5, _, _, B.cl, ⟨aM5, bM5, kM5⟩, ok_vl FM5 T B CM1 CM2 CM3 CM4, BM5⟩
  have CM6 : CalX l.prog w K mg base 4 C "part" (spPT K C CB) := ⟨fM6, _, _, B.cl, ⟨aM6, bM6, kM6⟩, ok_pt FM6 T B CM1 CM2 CM3 CM5, BM6⟩
  have CM7 : CalX l.prog w K mg base 5 C "code_row" (spRd K C CB datR pRow) := ⟨fM7, _, _, B.cl, ⟨aM7, bM7, kM7⟩, ok_rw FM7 T B CM2 CM6, BM7⟩
  have CRB : CalRB l.prog w K mg base CB := ⟨f35, _, ok_rb F35 T B CMk CM2 CM3 CM7 C18 C33, PySem.W.mg_of X G a35, k35, B35⟩
  have C37 : C8.Cal l.prog w K mg base 1 "_law_draws" (spLD K) [] := ⟨f37, _, _, [], ok_ld F37 T, PySem.W.mg_of X G a37, k37, B37, .nil⟩
  have C38 : C8.Cal l.prog w K mg base 1 "_law_take" (spDr K vTake) [] := ⟨f38, _, _, [], ok_lt F38 T, PySem.W.mg_of X G a38, k38, B38, .nil⟩
  have C39 : C8.Cal l.prog w K mg base 2 "_law_start" (spLS K) [] := ⟨f39, _, _, [], ok_ls F39 T C37, PySem.W.mg_of X G a39, k39, B39, .nil⟩
  have C40 : C8.Cal l.prog w K mg base 2 "_law_place" (spDr K vPlace) [] := ⟨f40, _, _, [], ok_lp F40 T C38, PySem.W.mg_of X G a40, k40, B40, .nil⟩
  have C41 : C8.Cal l.prog w K mg base 3 "_law_places" (spLQ K) [] := ⟨f41, _, _, [], ok_lq F41 T C38 C40, PySem.W.mg_of X G a41, k41, B41, .nil⟩
  have C42 : C8.Cal l.prog w K mg base 2 "_law_value" (spDr K vVal) [] := ⟨f42, _, _, [], ok_lv F42 T C38, PySem.W.mg_of X G a42, k42, B42, .nil⟩
  have C43 : C8.Cal l.prog w K mg base 4 "_law_row" (spLR K) [] := ⟨f43, _, _, [], ok_lr F43 T C38 C40 C41 C42, PySem.W.mg_of X G a43, k43, B43, .nil⟩
  have C44 : C8.Cal l.prog w K mg base 5 "_law_code" (spLC K) [] := ⟨f44, _, _, [], ok_lc F44 T C38 C43, PySem.W.mg_of X G a44, k44, B44, .nil⟩
  have C45 : C8.Cal l.prog w K mg base 1 "_law_is_count" spQC [] := ⟨f45, _, _, [], ok_qc F45 T, PySem.W.mg_of X G a45, k45, B45, .nil⟩
  have C46 : C8.Cal l.prog w K mg base 1 "_law_is_value" (spQV K) [] := ⟨f46, _, _, [], ok_qv F46 T, PySem.W.mg_of X G a46, k46, B46, .nil⟩
  have C47 : C8.Cal l.prog w K mg base 1 "_law_sorts" spQS [] := ⟨f47, _, _, [], ok_qs F47 T, PySem.W.mg_of X G a47, k47, B47, .nil⟩
  have C48 : C8.Cal l.prog w K mg base 2 "_law_is_part" (spQP K) [] := ⟨f48, _, _, [], ok_qp F48 T C45 C46, PySem.W.mg_of X G a48, k48, B48, .nil⟩
  have C49 : C8.Cal l.prog w K mg base 3 "_law_is_row" (spQR K) [] := ⟨f49, _, _, [], ok_qr F49 T C47 C48, PySem.W.mg_of X G a49, k49, B49, .nil⟩
  have C50 : C8.Cal l.prog w K mg base 4 "_law_is_code" (spQK K) [] := ⟨f50, _, _, [], ok_qk F50 T C49, PySem.W.mg_of X G a50, k50, B50, .nil⟩
  have C51 : C8.Cal l.prog w K mg base 1 "_law_count" spLN [] := ⟨f51, _, _, [], ok_ln F51 T, PySem.W.mg_of X G a51, k51, B51, .nil⟩
  have C52 : C8.Cal l.prog w K mg base 2 "_law_part" (spLPt K) [] := ⟨f52, _, _, [], ok_lpt F52 T C51, PySem.W.mg_of X G a52, k52, B52, .nil⟩
  have C53 : C8.Cal l.prog w K mg base 3 "_law_bytes" (spLB K) [] := ⟨f53, _, _, [], ok_lb F53 T C47 C51 C52, PySem.W.mg_of X G a53, k53, B53, .nil⟩
  have C54 : C8.Cal l.prog w K mg base 2 "_law_other" (spLO K) [] := ⟨f54, _, _, [], ok_lo F54 T C38, PySem.W.mg_of X G a54, k54, B54, .nil⟩
  have C55 : C8.Cal l.prog w K mg base 7 "_law_right" (spRT K) [] := ⟨f55, _, _, [], ok_rt F55 T B R CRB C50 C53, PySem.W.mg_of X G a55, k55, B55, .nil⟩
  exact ok_law F56 T CRB C33 C39 C44 C53 C54 C55
theorem walk {l : PySem.W.OpenLaw} {q : Program} {loose : List Str} {XP : (Str → Option Value) → Heap → Prop} {YP : World → Heap → Prop} {d : DefRec} {K : Params → PySem.W.Frag} (hn : l.most = some 63) (hdf : d.params.defaults = [])
    (hY : ∀ (w : World) (h : Heap), YP w h → (K w.params).In h)
    (F : ∀ (w : World) (mg : Str → Option Value) (fa : Addr) (h : Heap), (K w.params).In h → h.Ns mainGlobals mg → mg d.name = some (.ref fa) →
      ∃ fd : FuncData, (∀ (s : Shared) (u : Value), BindsTo s fd ⟨[u], []⟩ [("_law_script", u)]) ∧ ∀ base : Heap, (K w.params).In base → base.Ns mainGlobals mg → FnOk l.prog w (K w.params) mg base CX0 8 fa fd ["_law_script"] (spLaw (K w.params))) :
    PySem.W.WalkO q loose XP YP l.row.toRowW d [] (fun f vs => PySem.call f vs) :=
  L2.walk_of (n := 63) (k := 8) (x := "_law_script") (CX := fun _ => CX0) (sp := fun w => spLaw (K w.params)) hn (by decide) hdf ⟨rfl, by decide, by decide⟩ hY F (fun _ _ a ns hl _ hS => ⟨a, ns, rfl, hS, hl, fun _ => rfl⟩) fun _ _ _ _ _ z => z
end L2.KR
open PySem PySem.W PyProof.Rows in
set_option maxRecDepth 100000 in
set_option maxHeartbeats 0 in
theorem PySem.Challenge.cw_tapline_k53_code_as_bytes_and_back_holds : PySem.Challenge.rw_tapline_k53_code_as_bytes_and_back.Holds := by
  w_on; o_law; k_head; (case hw => w_witness2)
  k_fill
  refine L2.KR.walk (l := PySem.Challenge.rw_tapline_k53_code_as_bytes_and_back) rfl rfl (fun w h Y => PySem.W.kIn_of Y) ?F
  case F =>
    intro w mg fa h KX G hmg
    refine' L2.KR.all_mk KX G hmg ?i_rng ?i_half ?i_longest ?i_regs ?n_words ?t_words ?n_views ?t_views ?n_signs ?t_signs ?n_comps ?t_comps ?n_sorts ?t_sorts ?n_kinds ?t_kinds ?n_regp ?t_regp ?n_cnts ?t_cnts ?n_P ?l_P ?y_P ?t_P ?n_C ?l_C ?y_C ?z_C ?t_C ?k_C ?m_C ?n_H ?l_H ?t_hb ?t_hc ?t_hd ?t_he ?z_len ?z_isi ?z_int ?z_str ?z_bool ?z_tup ?z_list ?z_range ?z_all ?z_ord ?z_abs ?aCl ?pg ?hdi ?po ?sa ?nRow ?nAt ?mkC ?kpC ?aCB ?xCB ?kpB ?sbB ?tyB ?eg ?ek ?ed ?ea ?en ?et ?em ?sbb ?aCE ?kCE ?aCS ?kCS ?a11 ?l11 ?c11 ?k11 ?a12 ?l12 ?c12 ?k12 ?a13 ?l13 ?c13 ?k13 ?a14 ?l14 ?c14 ?k14 ?a15 ?l15 ?c15 ?k15 ?a16 ?l16 ?c16 ?k16 ?a17 ?l17 ?c17 ?k17 ?a18 ?l18 ?c18 ?k18 ?a30 ?l30 ?c30 ?k30 ?a31 ?l31 ?c31 ?k31 ?a32 ?l32 ?c32 ?k32 ?a33 ?l33 ?c33 ?k33 ?aI ?bI ?lI ?cI ?kI ?aM1 ?bM1 ?lM1 ?cM1 ?kM1 ?aM2 ?bM2 ?lM2 ?cM2 ?kM2 ?aM3 ?bM3 ?lM3 ?cM3 ?kM3 ?aM4 ?bM4 ?lM4 ?cM4 ?kM4 ?aM5 ?bM5 ?lM5 ?cM5 ?kM5 ?aM6 ?bM6 ?lM6 ?cM6 ?kM6 ?aM7 ?bM7 ?lM7 ?cM7 ?kM7 ?a35 ?l35 ?c35 ?k35 ?a37 ?l37 ?c37 ?k37 ?a38 ?l38 ?c38 ?k38 ?a39 ?l39 ?c39 ?k39 ?a40 ?l40 ?c40 ?k40 ?a41 ?l41 ?c41 ?k41 ?a42 ?l42 ?c42 ?k42 ?a43 ?l43 ?c43 ?k43 ?a44 ?l44 ?c44 ?k44 ?a45 ?l45 ?c45 ?k45 ?a46 ?l46 ?c46 ?k46 ?a47 ?l47 ?c47 ?k47 ?a48 ?l48 ?c48 ?k48 ?a49 ?l49 ?c49 ?k49 ?a50 ?l50 ?c50 ?k50 ?a51 ?l51 ?c51 ?k51 ?a52 ?l52 ?c52 ?k52 ?a53 ?l53 ?c53 ?k53 ?a54 ?l54 ?c54 ?k54 ?a55 ?l55 ?c55 ?k55 ?a56 ?l56 ?c56 ?k56
    (case i_rng => k_is)
    (case i_half => k_is)
    (case i_longest => k_is)
    (case i_regs => k_is)
    (case n_words => k_is)
    (case t_words => first | kernel_rfl | decide +kernel | rfl)
    (case n_views => k_is)
    (case t_views => first | kernel_rfl | decide +kernel | rfl)
    (case n_signs => k_is)
    (case t_signs => first | kernel_rfl | decide +kernel | rfl)
    (case n_comps => k_is)
    (case t_comps => first | kernel_rfl | decide +kernel | rfl)
    (case n_sorts => k_is)
    (case t_sorts => first | kernel_rfl | decide +kernel | rfl)
    (case n_kinds => k_is)
    (case t_kinds => first | kernel_rfl | decide +kernel | rfl)
    (case n_regp => k_is)
    (case t_regp => first | kernel_rfl | decide +kernel | rfl)
    (case n_cnts => k_is)
    (case t_cnts => first | kernel_rfl | decide +kernel | rfl)
    (case n_P => k_is)
    (case l_P => k_is)
    (case y_P => exact ⟨⟨_, _, rfl, rfl⟩, ⟨⟨_, _, rfl, rfl⟩, ⟨⟨_, _, rfl, rfl⟩, ⟨⟨_, _, rfl, rfl⟩, ⟨⟨_, _, rfl, rfl⟩, ⟨⟨_, _, rfl, rfl⟩, ⟨⟨_, _, rfl, rfl⟩, ⟨⟨_, _, rfl, rfl⟩, ⟨⟨_, _, rfl, rfl⟩, ⟨⟨_, _, rfl, rfl⟩, ⟨⟨_, _, rfl, rfl⟩, ⟨⟨_, _, rfl, rfl⟩, ⟨⟨_, _, rfl, rfl⟩, ⟨⟨_, _, rfl, rfl⟩, ⟨⟨_, _, rfl, rfl⟩, ⟨⟨_, _, rfl, rfl⟩, ⟨⟨_, _, rfl, rfl⟩, ⟨⟨_, _, rfl, rfl⟩, ⟨⟨_, _, rfl, rfl⟩, ⟨⟨_, _, rfl, rfl⟩, ⟨⟨_, _, rfl, rfl⟩, ⟨⟨_, _, rfl, rfl⟩, ⟨⟨_, _, rfl, rfl⟩, ⟨⟨_, _, rfl, rfl⟩, ⟨⟨_, _, rfl, rfl⟩, ⟨⟨_, _, rfl, rfl⟩, ⟨⟨_, _, rfl, rfl⟩, ⟨⟨_, _, rfl, rfl⟩, ⟨⟨_, _, rfl, rfl⟩, ⟨⟨_, _, rfl, rfl⟩, ⟨⟨_, _, rfl, rfl⟩, ⟨⟨_, _, rfl, rfl⟩, trivial⟩⟩⟩⟩⟩⟩⟩⟩⟩⟩⟩⟩⟩⟩⟩⟩⟩⟩⟩⟩⟩⟩⟩⟩⟩⟩⟩⟩⟩⟩⟩⟩)
    (case t_P => first | kernel_rfl | decide +kernel | rfl)
    (case n_C => k_is)
    (case l_C => k_is)
    (case y_C => exact ⟨⟨_, _, rfl, rfl⟩, ⟨⟨_, _, rfl, rfl⟩, ⟨⟨_, _, rfl, rfl⟩, ⟨⟨_, _, rfl, rfl⟩, trivial⟩⟩⟩⟩)
    (case z_C => decide)
    (case t_C => first | kernel_rfl | decide +kernel | rfl)
    (case k_C => k_is)
    (case m_C => k_is)
    (case n_H => k_is)
    (case l_H => k_is)
    (case t_hb => first | kernel_rfl | decide +kernel | rfl)
    (case t_hc => first | kernel_rfl | decide +kernel | rfl)
    (case t_hd => first | kernel_rfl | decide +kernel | rfl)
    (case t_he => first | kernel_rfl | decide +kernel | rfl)
    (case z_len => k_is)
    (case z_isi => k_is)
    (case z_int => k_is)
    (case z_str => k_is)
    (case z_bool => k_is)
    (case z_tup => k_is)
    (case z_list => k_is)
    (case z_range => k_is)
    (case z_all => k_is)
    (case z_ord => k_is)
    (case z_abs => k_is)
    (case aCl => first | k_is | kernel_rfl | rfl)
    (case pg => first | k_is | kernel_rfl | rfl)
    (case hdi => first | k_is | kernel_rfl | rfl)
    (case po => first | k_is | kernel_rfl | rfl)
    (case sa => first | k_is | kernel_rfl | rfl)
    (case nRow => first | k_is | kernel_rfl | rfl)
    (case nAt => first | k_is | kernel_rfl | rfl)
    (case mkC => first | k_is | kernel_rfl | rfl)
    (case kpC => first | k_is | kernel_rfl | rfl)
    (case aCB => first | k_is | kernel_rfl | rfl)
    (case xCB => k_exc)
    (case kpB => first | k_is | kernel_rfl | rfl)
    (case sbB => first | k_is | kernel_rfl | rfl)
    (case tyB => first | k_is | kernel_rfl | rfl)
    (case eg => first | k_is | kernel_rfl | rfl)
    (case ek => first | k_is | kernel_rfl | rfl)
    (case ed => first | k_is | kernel_rfl | rfl)
    (case ea => first | k_is | kernel_rfl | rfl)
    (case en => first | k_is | kernel_rfl | rfl)
    (case et => first | k_is | kernel_rfl | rfl)
    (case em => first | k_is | kernel_rfl | rfl)
    (case sbb => first | k_is | kernel_rfl | rfl)
    (case aCE => first | k_is | kernel_rfl | rfl)
    (case kCE => first | k_is | kernel_rfl | rfl)
    (case aCS => first | k_is | kernel_rfl | rfl)
    (case kCS => first | k_is | kernel_rfl | rfl)
    (case a11 => k_is)
    (case l11 => k_is)
    (case c11 => k_is)
    (case k11 => k_is)
    (case a12 => k_is)
    (case l12 => k_is)
    (case c12 => k_is)
    (case k12 => k_is)
    (case a13 => k_is)
    (case l13 => k_is)
    (case c13 => k_is)
    (case k13 => k_is)
    (case a14 => k_is)
    (case l14 => k_is)
    (case c14 => k_is)
    (case k14 => k_is)
    (case a15 => k_is)
    (case l15 => k_is)
    (case c15 => k_is)
    (case k15 => k_is)
    (case a16 => k_is)
    (case l16 => k_is)
    (case c16 => k_is)
    (case k16 => k_is)
    (case a17 => k_is)
    (case l17 => k_is)
    (case c17 => k_is)
    (case k17 => k_is)
    (case a18 => k_is)
    (case l18 => k_is)
    (case c18 => k_is)
    (case k18 => k_is)
    (case a30 => k_is)
    (case l30 => k_is)
    (case c30 => k_is)
    (case k30 => k_is)
    (case a31 => k_is)
    (case l31 => k_is)
    (case c31 => k_is)
    (case k31 => k_is)
    (case a32 => k_is)
    (case l32 => k_is)
    (case c32 => k_is)
    (case k32 => k_is)
    (case a33 => k_is)
    (case l33 => k_is)
    (case c33 => k_is)
    (case k33 => k_is)
    (case aI => k_is)
    (case bI => k_is)
    (case lI => k_is)
    (case cI => k_is)
    (case kI => k_is)
    (case aM1 => k_is)
    (case bM1 => k_is)
    (case lM1 => k_is)
    (case cM1 => k_is)
    (case kM1 => k_is)
    (case aM2 => k_is)
    (case bM2 => k_is)
    (case lM2 => k_is)
    (case cM2 => k_is)
    (case kM2 => k_is)
    (case aM3 => k_is)
    (case bM3 => k_is)
    (case lM3 => k_is)
    (case cM3 => k_is)
    (case kM3 => k_is)
    (case aM4 => k_is)
    (case bM4 => k_is)
    (case lM4 => k_is)
    (case cM4 => k_is)
    (case kM4 => k_is)
    (case aM5 => k_is)
    (case bM5 => k_is)
    (case lM5 => k_is)
    (case cM5 => k_is)
    (case kM5 => k_is)
    (case aM6 => k_is)
    (case bM6 => k_is)
    (case lM6 => k_is)
    (case cM6 => k_is)
    (case kM6 => k_is)
    (case aM7 => k_is)
    (case bM7 => k_is)
    (case lM7 => k_is)
    (case cM7 => k_is)
    (case kM7 => k_is)
    (case a35 => k_is)
    (case l35 => k_is)
    (case c35 => k_is)
    (case k35 => k_is)
    (case a37 => k_is)
    (case l37 => k_is)
    (case c37 => k_is)
    (case k37 => k_is)
    (case a38 => k_is)
    (case l38 => k_is)
    (case c38 => k_is)
    (case k38 => k_is)
    (case a39 => k_is)
    (case l39 => k_is)
    (case c39 => k_is)
    (case k39 => k_is)
    (case a40 => k_is)
    (case l40 => k_is)
    (case c40 => k_is)
    (case k40 => k_is)
    (case a41 => k_is)
    (case l41 => k_is)
    (case c41 => k_is)
    (case k41 => k_is)
    (case a42 => k_is)
    (case l42 => k_is)
    (case c42 => k_is)
    (case k42 => k_is)
    (case a43 => k_is)
    (case l43 => k_is)
    (case c43 => k_is)
    (case k43 => k_is)
    (case a44 => k_is)
    (case l44 => k_is)
    (case c44 => k_is)
    (case k44 => k_is)
    (case a45 => k_is)
    (case l45 => k_is)
    (case c45 => k_is)
    (case k45 => k_is)
    (case a46 => k_is)
    (case l46 => k_is)
    (case c46 => k_is)
    (case k46 => k_is)
    (case a47 => k_is)
    (case l47 => k_is)
    (case c47 => k_is)
    (case k47 => k_is)
    (case a48 => k_is)
    (case l48 => k_is)
    (case c48 => k_is)
    (case k48 => k_is)
    (case a49 => k_is)
    (case l49 => k_is)
    (case c49 => k_is)
    (case k49 => k_is)
    (case a50 => k_is)
    (case l50 => k_is)
    (case c50 => k_is)
    (case k50 => k_is)
    (case a51 => k_is)
    (case l51 => k_is)
    (case c51 => k_is)
    (case k51 => k_is)
    (case a52 => k_is)
    (case l52 => k_is)
    (case c52 => k_is)
    (case k52 => k_is)
    (case a53 => k_is)
    (case l53 => k_is)
    (case c53 => k_is)
    (case k53 => k_is)
    (case a54 => k_is)
    (case l54 => k_is)
    (case c54 => k_is)
    (case k54 => k_is)
    (case a55 => k_is)
    (case l55 => k_is)
    (case c55 => k_is)
    (case k55 => k_is)
    (case a56 => k_is)
    (case l56 => k_is)
    (case c56 => k_is)
    (case k56 => k_is)
#print axioms PySem.Challenge.cw_tapline_k53_code_as_bytes_and_back_holds
