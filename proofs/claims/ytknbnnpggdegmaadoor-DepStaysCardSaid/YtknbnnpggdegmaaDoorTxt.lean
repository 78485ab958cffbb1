/- Texts as lists of bytes: what the printed functions read of them. -/
import Derived.Test.YtknbnnpggdegmaaDoorWWords
import Derived.Lib.Strings
set_option linter.unusedVariables false
set_option linter.unusedSimpArgs false
namespace Go.Proofs.YtknbnnpggdegmaaDoor.Txt
open Go.RowKit Go.Proofs.YtknbnnpggdegmaaDoorW.PrintWords

/-- The bytes. -/
def L (s : ByteArray) : List UInt8 := s.data.toList
theorem L_length (s : ByteArray) : (L s).length = s.size := by show s.data.toList.length = s.data.size; exact Array.length_toList
theorem L_inj {s t : ByteArray} (h : L s = L t) : s = t := by
  cases s; cases t; congr 1; exact Array.toList_inj.1 h
theorem L_mk (l : List UInt8) : L ⟨l.toArray⟩ = l := by simp [L]
theorem L_append (s t : ByteArray) : L (s ++ t) = L s ++ L t := by simp [L]
theorem toList_L (s : ByteArray) : s.toList = L s := ByteArray.toList_eq s
theorem bt_L (s : ByteArray) (p : Nat) (h : p < s.size) : bt s (p : Int) = ((L s)[p]'(by rw [L_length]; exact h)).toNat := by
  unfold bt
  simp only [Int.toNat_natCast]
  rw [dif_pos h]
  rfl
theorem extract_L (s : ByteArray) (a b : Nat) : L (s.extract a b) = ((L s).drop a).take (b - a) := Go.Lib.extract_data s a b
theorem wrap_nat {p : Nat} (h : p + 1 ≤ 9223372036854775807) : wrap64 ((p : Int) + 1) = ((p + 1 : Nat) : Int) := by unfold wrap64; omega

/-- Where bytes of a kind end, from a place on. -/
def run (f : UInt8 → Bool) (l : List UInt8) (p : Nat) : Nat := p + ((l.drop p).takeWhile f).length
theorem run_le (f : UInt8 → Bool) (l : List UInt8) (p : Nat) (h : p ≤ l.length) : run f l p ≤ l.length := by
  have := (List.takeWhile_prefix f (l := l.drop p)).length_le
  rw [List.length_drop] at this
  unfold run; omega
theorem le_run (f : UInt8 → Bool) (l : List UInt8) (p : Nat) : p ≤ run f l p := by unfold run; omega
theorem run_on (f : UInt8 → Bool) (l : List UInt8) (p : Nat) (h : p < l.length) (hf : f l[p] = true) : run f l p = run f l (p + 1) := by
  unfold run
  rw [List.drop_eq_getElem_cons h, List.takeWhile_cons_of_pos hf, List.length_cons]; omega
theorem run_off (f : UInt8 → Bool) (l : List UInt8) (p : Nat) (h : p < l.length) (hf : f l[p] = false) : run f l p = p := by
  unfold run
  rw [List.drop_eq_getElem_cons h, List.takeWhile_cons_of_neg (by simp [hf])]; rfl
theorem run_end (f : UInt8 → Bool) (l : List UInt8) (p : Nat) (h : l.length ≤ p) : run f l p = p := by
  unfold run; rw [List.drop_eq_nil_of_le h]; rfl
theorem run_text (f : UInt8 → Bool) (l : List UInt8) (p : Nat) : (l.drop p).take (run f l p - p) = (l.drop p).takeWhile f := by
  unfold run
  rw [Nat.add_sub_cancel_left]
  have := List.takeWhile_append_dropWhile (p := f) (l := l.drop p)
  generalize List.takeWhile f (l.drop p) = u at this ⊢
  rw [← this, List.take_left']
  rfl
theorem run_all (f : UInt8 → Bool) (l : List UInt8) (p : Nat) : ∀ c ∈ (l.drop p).takeWhile f, f c = true := fun c hc => by
  have := List.all_takeWhile (p := f) (l := l.drop p)
  exact List.all_eq_true.1 this c hc
theorem run_stop (f : UInt8 → Bool) (l : List UInt8) (p : Nat) (h : run f l p < l.length) (hp : p ≤ l.length) : f (l[run f l p]) = false := by
  induction hd : l.length - p generalizing p with
  | zero => have := le_run f l p; omega
  | succ d ih =>
    by_cases hlt : p < l.length
    · cases hf : f l[p] with
      | true =>
        have e := run_on f l p hlt hf
        have := ih (p + 1) (by rw [← e]; exact h) (by omega) (by omega)
        simp only [e]
        exact this
      | false =>
        have e := run_off f l p hlt hf
        simp only [e]
        exact hf
    · omega
theorem take_split (l : List UInt8) (p q : Nat) (h : p ≤ q) : l.take q = l.take p ++ (l.drop p).take (q - p) := by
  rw [← List.take_add]; congr 1; omega
end Go.Proofs.YtknbnnpggdegmaaDoor.Txt
