/- Decimal numerals and texts, in plain Lean: digits read and written. -/
import Derived.Lib.ItoaNum
import Derived.Lib.AtoiAll
set_option linter.unusedVariables false
set_option linter.unusedSimpArgs false
namespace Go.Proofs.YtknbnnpggdegmaaDoor.Num

def isDig (c : UInt8) : Bool := decide (48 ≤ c.toNat) && decide (c.toNat ≤ 57)
theorem isDig_iff (c : UInt8) : isDig c = true ↔ 48 ≤ c.toNat ∧ c.toNat ≤ 57 := by simp [isDig]
/-- The number of digits, behind a number. -/
def valA (a : Nat) : List UInt8 → Nat
  | [] => a
  | c :: l => valA (a * 10 + (c.toNat - 48)) l
def valD (l : List UInt8) : Nat := valA 0 l

theorem valA_append (a : Nat) (l : List UInt8) (c : UInt8) : valA a (l ++ [c]) = valA a l * 10 + (c.toNat - 48) := by
  induction l generalizing a with
  | nil => rfl
  | cons d l ih => exact ih _
theorem valD_snoc (l : List UInt8) (c : UInt8) : valD (l ++ [c]) = valD l * 10 + (c.toNat - 48) := valA_append 0 l c
theorem pow_step (a d n : Nat) (hd : d < 10) : (a * 10 + d + 1) * 10 ^ n ≤ (a + 1) * 10 ^ (n + 1) := by
  rw [Nat.pow_succ]
  generalize 10 ^ n = p
  have h1 : a * 10 + d + 1 ≤ (a + 1) * 10 := by omega
  have h2 := Nat.mul_le_mul_right p h1
  rw [Nat.mul_comm p 10, ← Nat.mul_assoc]
  exact h2
theorem valA_lt : ∀ (l : List UInt8) (h : ∀ c ∈ l, isDig c = true) (a : Nat), valA a l < (a + 1) * 10 ^ l.length
  | [], _, a => by show a < (a + 1) * 1; omega
  | c :: l, h, a => by
    have hc := (isDig_iff c).1 (h c (List.mem_cons_self ..))
    have h1 := valA_lt l (fun d hd => h d (List.mem_cons_of_mem _ hd)) (a * 10 + (c.toNat - 48))
    show valA (a * 10 + (c.toNat - 48)) l < (a + 1) * 10 ^ (l.length + 1)
    exact Nat.lt_of_lt_of_le h1 (pow_step a (c.toNat - 48) l.length (by omega))
theorem valD_lt (l : List UInt8) (h : ∀ c ∈ l, isDig c = true) : valD l < 10 ^ l.length := by
  have := valA_lt l h 0
  rw [Nat.zero_add, Nat.one_mul] at this
  exact this
theorem pow_ge (a d n : Nat) : a * 10 ^ (n + 1) ≤ (a * 10 + d) * 10 ^ n := by
  rw [Nat.pow_succ]
  generalize 10 ^ n = p
  have h2 := Nat.mul_le_mul_right p (Nat.le_add_right (a * 10) d)
  rw [Nat.mul_comm p 10, ← Nat.mul_assoc]
  exact h2
theorem valA_ge : ∀ (l : List UInt8) (a : Nat), a * 10 ^ l.length ≤ valA a l
  | [], a => by show a * 1 ≤ a; omega
  | c :: l, a => Nat.le_trans (pow_ge a (c.toNat - 48) l.length) (valA_ge l (a * 10 + (c.toNat - 48)))

theorem parse_digits (l : List UInt8) (h : ∀ c ∈ l, isDig c = true) : ∀ a, valA a l < 18446744073709551616 → Go.Lib.parseUint10 a l = .ok (valA a l) := by
  induction l with
  | nil => intro a ha; rfl
  | cons c l ih =>
    intro a ha
    have hc := (isDig_iff c).1 (h c (by simp))
    have hm := valA_ge l (a * 10 + (c.toNat - 48))
    have h1 : 1 ≤ 10 ^ l.length := Nat.one_le_pow _ _ (by decide)
    have h3 : valA a (c :: l) = valA (a * 10 + (c.toNat - 48)) l := rfl
    rw [h3] at ha ⊢
    have h2 : a * 10 + (c.toNat - 48) < 18446744073709551616 := by
      have : (a * 10 + (c.toNat - 48)) * 1 ≤ (a * 10 + (c.toNat - 48)) * 10 ^ l.length := Nat.mul_le_mul_left _ h1
      omega
    unfold Go.Lib.parseUint10
    rw [if_pos hc, if_neg (by omega), if_neg (by omega)]
    exact ih (fun d hd => h d (by simp [hd])) _ ha

theorem atoi_digits (l : List UInt8) (h : ∀ c ∈ l, isDig c = true) (hne : l ≠ []) (hl : l.length ≤ 18) : Go.Lib.atoiAll l = .ok (valD l : Int) := by
  have hv := valD_lt l h
  have hp : 10 ^ l.length ≤ 10 ^ 18 := Nat.pow_le_pow_right (by decide) hl
  have hb : valD l < 1000000000000000000 := Nat.lt_of_lt_of_le hv hp
  cases l with
  | nil => exact absurd rfl hne
  | cons c r =>
    have hc := (isDig_iff c).1 (h c (by simp))
    have e := parse_digits (c :: r) h 0 (by show valD (c :: r) < _; omega)
    unfold Go.Lib.atoiAll
    simp only
    rw [if_neg (by omega)]
    unfold Go.Lib.parseMag
    rw [if_neg (by simp), e]
    have hb' : valA 0 (c :: r) < 1000000000000000000 := hb
    simp only
    rw [if_neg (by omega), if_neg (by omega), if_neg (by omega)]
    rfl

theorem ofNat_toNat (c : UInt8) : UInt8.ofNat c.toNat = c := by simp
theorem dec_val (l : List UInt8) : ∀ (h : ∀ c ∈ l, isDig c = true) (hne : l ≠ []) (h0 : l.length = 1 ∨ ∀ c, l.head? = some c → c.toNat ≠ 48), Go.Lib.decDigits (valD l) = l := by
  induction hn : l.length generalizing l with
  | zero => intro _ hne _; exact absurd (List.length_eq_zero_iff.1 hn) hne
  | succ n ih =>
    intro h hne h0
    obtain ⟨m, c, rfl⟩ : ∃ m c, l = m ++ [c] := ⟨l.dropLast, l.getLast hne, (List.dropLast_concat_getLast hne).symm⟩
    have hc := (isDig_iff c).1 (h c (by simp))
    rw [valD_snoc]
    by_cases hm : m = []
    · subst hm
      rw [show valD [] = 0 from rfl, Go.Lib.decDigits, dif_pos (by omega)]
      simp only [List.nil_append, List.cons.injEq, and_true]
      rw [show 48 + (0 * 10 + (c.toNat - 48)) = c.toNat by omega]
      exact ofNat_toNat c
    · have hlen : m.length = n := by simpa using hn
      have hd : ∀ c ∈ m, isDig c = true := fun d hd => h d (by simp [hd])
      obtain ⟨d, r, rfl⟩ : ∃ d r, m = d :: r := by cases m with | nil => exact absurd rfl hm | cons d r => exact ⟨d, r, rfl⟩
      have hhead : d.toNat ≠ 48 := by
        rcases h0 with h0 | h0
        · simp at h0 hn; omega
        · exact h0 d rfl
      have hdd := (isDig_iff d).1 (hd d (by simp))
      have hpos : 1 ≤ valD (d :: r) := by
        have := valA_ge r (0 * 10 + (d.toNat - 48))
        have h1 : 1 ≤ 10 ^ r.length := Nat.one_le_pow _ _ (by decide)
        have h2 : 1 * 1 ≤ (0 * 10 + (d.toNat - 48)) * 10 ^ r.length := Nat.mul_le_mul (by omega) h1
        show 1 ≤ valA (0 * 10 + (d.toNat - 48)) r
        omega
      rw [Go.Lib.decDigits, dif_neg (by omega), show (valD (d :: r) * 10 + (c.toNat - 48)) / 10 = valD (d :: r) by omega, show (valD (d :: r) * 10 + (c.toNat - 48)) % 10 = c.toNat - 48 by omega,
        ih (d :: r) hlen hd (by simp) (.inr (fun e he => by simp at he; subst he; exact hhead)), show 48 + (c.toNat - 48) = c.toNat by omega, ofNat_toNat]

theorem dec_digits (u : Nat) : (∀ c ∈ Go.Lib.decDigits u, isDig c = true) ∧ valD (Go.Lib.decDigits u) = u ∧ Go.Lib.decDigits u ≠ [] ∧ ((Go.Lib.decDigits u).length = 1 ∨ ∀ c, (Go.Lib.decDigits u).head? = some c → c.toNat ≠ 48) := by
  induction u using Nat.strongRecOn with
  | _ u ih =>
    by_cases h : u < 10
    · rw [Go.Lib.decDigits, dif_pos h]
      have e : (UInt8.ofNat (48 + u)).toNat = 48 + u := by simp; omega
      refine ⟨fun c hc => ?_, ?_, by simp, .inl rfl⟩
      · rw [List.mem_singleton.1 hc, isDig_iff, e]; omega
      · show 0 * 10 + ((UInt8.ofNat (48 + u)).toNat - 48) = u
        rw [e]; omega
    · obtain ⟨h1, h2, h3, h4⟩ := ih (u / 10) (by omega)
      rw [Go.Lib.decDigits, dif_neg h]
      have e : (UInt8.ofNat (48 + u % 10)).toNat = 48 + u % 10 := by simp; omega
      refine ⟨fun c hc => ?_, ?_, by simp, .inr fun c hc => ?_⟩
      · rcases List.mem_append.1 hc with hc | hc
        · exact h1 c hc
        · rw [List.mem_singleton.1 hc, isDig_iff, e]; omega
      · rw [valD_snoc, h2, e]; omega
      · rw [List.head?_append, Option.or_of_isSome (by cases hq : Go.Lib.decDigits (u / 10) with | nil => exact absurd hq h3 | cons x y => rfl)] at hc
        rcases h4 with h4 | h4
        · obtain ⟨d, hd⟩ := List.length_eq_one_iff.1 h4
          rw [hd] at hc h2 h1
          simp at hc
          subst hc
          have := (isDig_iff d).1 (h1 d (by simp))
          have h2' : 0 * 10 + (d.toNat - 48) = u / 10 := h2
          omega
        · exact h4 c hc
end Go.Proofs.YtknbnnpggdegmaaDoor.Num
