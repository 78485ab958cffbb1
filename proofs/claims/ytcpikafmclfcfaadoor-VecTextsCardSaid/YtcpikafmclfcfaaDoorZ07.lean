/- The statement VecTexts: any vector's text, and any text's vector, are the document's, or refused, for every vector and every text, without a further condition. -/
import Derived.Test.YtcpikafmclfcfaaDoorZ05
import Derived.Test.YtcpikafmclfcfaaDoorZ06
import Derived.Test.YtcpikafmclfcfaaDoorZ03
import Derived.OpenShut
import Derived.Test.YtcpikafmclfcfaaDoorRows
import Derived.Test.YtcpikafmclfcfaaDoorCards
import Derived.Test.YtcpikafmclfcfaaDoorTie
import Derived.Test.YtcpikafmclfcfaaDoorZ02
import Derived.Lay
import Derived.WalkKit
import Derived.ProofKit
import Derived.ShutString
import Derived.ChangeOld
import Derived.Below
import Derived.Carry
import Derived.SizedLaws
import Derived.Deep.DeepHandedRow
import Derived.Deep.DeepWitnessRowRef
import Derived.Stop.LaidErr
import Derived.Lib.LaidTab
import Derived.LaidMore
section
namespace Go.Proofs.YtcpikafmclfcfaaDoor.Vc
open Go.RowKit Go.Proofs.YtcpikafmclfcfaaDoor.Txt Go.Proofs.YtcpikafmclfcfaaDoorW.PrintWords Go.Proofs.YtcpikafmclfcfaaDoorW.PrintLast Go.Proofs.YtcpikafmclfcfaaDoorW.PrintMore Go.Proofs.YtcpikafmclfcfaaDoor.PY Go.Proofs.YtcpikafmclfcfaaDoor.Vl Go.Proofs.YtcpikafmclfcfaaDoor.Num
set_option linter.unusedVariables false
set_option linter.unusedSimpArgs false
theorem number_f (a : Int) : marlinspikeref06_number.f a = some (okN a) := by
  unfold marlinspikeref06_number.f okN
  by_cases h : a ≥ 0
  · rw [if_pos h, decide_eq_true (show 0 ≤ a from h)]; simp
  · rw [if_neg h, decide_eq_false (show ¬ 0 ≤ a from h)]; simp
theorem rRight_f (a b c : Int) : marlinspikeref06_Right.f a b c = some (rightB a b c) := by
  unfold marlinspikeref06_Right.f rightB
  rw [number_f, number_f, number_f]
  simp only [Option.bind_some]
  cases okN a <;> cases okN b <;> cases okN c <;> rfl
theorem rfmt_f (a b c : Int) (ha : I64 a) (hb : I64 b) (hc : I64 c) : marlinspikeref06_Format.f a b c = some (mkB (fmtL a b c)) := by
  unfold marlinspikeref06_Format.f; rw [if_pos ⟨ha, hb, hc⟩]
def numS : List UInt8 → Nat → Nat
  | [], n => n
  | d :: ys, n => if 48 ≤ d.toNat ∧ d.toNat ≤ 57 ∧ n ≤ 1073741824 then numS ys (n * 10 + (d.toNat - 48)) else n
def scanL : List UInt8 → List Int
  | [] => []
  | x :: xs => if x = 61 then (numS xs 0 : Int) :: scanL xs else scanL xs
theorem rp_l1 (s : ByteArray) (hs : s.size ≤ 60) (acc : List Int) (hacc : acc.length < 17592186044416) (i : Int) (K : Nat) : ∀ (d j n : Nat), s.size - j = d → j ≤ s.size → n ≤ 20000000000 →
    ∃ k, marlinspikeref06_Parse.l1 k s acc i n j = marlinspikeref06_Parse.l0 K s (acc ++ [(numS ((L s).drop j) n : Int)]) (wrap64 (i + 1)) := by
  intro d
  induction d with
  | zero =>
    intro j n hd hj hn
    refine ⟨K + 1, ?_⟩
    simp only [marlinspikeref06_Parse.l1]
    rw [if_neg (by omega), if_pos hacc, List.drop_eq_nil_of_le (by rw [L_length]; omega)]
    rfl
  | succ d ih =>
    intro j n hd hj hn
    have hlt : j < s.size := by omega
    have hjl : j < (L s).length := by rw [L_length]; exact hlt
    have hb := bt_L s j hlt
    have hu := ((L s)[j]).toNat_lt
    rw [List.drop_eq_getElem_cons hjl]
    by_cases hc : 48 ≤ ((L s)[j]).toNat ∧ ((L s)[j]).toNat ≤ 57 ∧ n ≤ 1073741824
    · obtain ⟨k, hk⟩ := ih (j + 1) (n * 10 + (((L s)[j]).toNat - 48)) (by omega) (by omega) (by omega)
      refine ⟨k + 1, ?_⟩
      simp only [marlinspikeref06_Parse.l1]
      rw [if_pos (by omega), if_pos (by omega), hb, if_pos (by omega), if_pos (by omega), if_pos (by omega), numS, if_pos hc, wrap_nat (by omega)]
      have e1 : ((((L s)[j]).toNat : Int) - 48) % 256 = ((((L s)[j]).toNat - 48 : Nat) : Int) := by omega
      have e2 : wrap64 ((n : Int) * 10) = ((n * 10 : Nat) : Int) := by unfold wrap64; omega
      have e3 : wrap64 (((n * 10 : Nat) : Int) + ((((L s)[j]).toNat - 48 : Nat) : Int)) = ((n * 10 + (((L s)[j]).toNat - 48) : Nat) : Int) := by
        generalize ((L s)[j]).toNat - 48 = q at *
        unfold wrap64; omega
      rw [e1, e2, e3, hk]
    · refine ⟨K + 1, ?_⟩
      simp only [marlinspikeref06_Parse.l1]
      rw [if_pos (by omega), if_pos (by omega), hb, numS, if_neg hc]
      by_cases h1 : 48 ≤ ((L s)[j]).toNat
      · rw [if_pos (by omega)]
        by_cases h2 : ((L s)[j]).toNat ≤ 57
        · rw [if_pos (by omega), if_neg (by omega), if_pos hacc]
        · rw [if_neg (by omega), if_pos hacc]
      · rw [if_neg (by omega), if_pos hacc]
theorem rp_l0 (s : ByteArray) (hs : s.size ≤ 60) (K : Nat) : ∀ (d i : Nat) (acc : List Int), s.size - i = d → i ≤ s.size → acc.length ≤ i →
    ∃ k, marlinspikeref06_Parse.l0 k s acc i = if (acc ++ scanL ((L s).drop i)).length > 3 then some (0, 0, 0, 3) else marlinspikeref06_Parse.l2 K s (acc ++ scanL ((L s).drop i)) 0 := by
  intro d
  induction d with
  | zero =>
    intro i acc hd hi ha
    refine ⟨K + 1, ?_⟩
    simp only [marlinspikeref06_Parse.l0]
    rw [if_neg (by omega), List.drop_eq_nil_of_le (by rw [L_length]; omega)]
    simp only [scanL, List.append_nil]
    by_cases h : acc.length > 3
    · rw [if_pos (by omega), if_pos h]
    · rw [if_neg (by omega), if_neg h]
  | succ d ih =>
    intro i acc hd hi ha
    have hlt : i < s.size := by omega
    have hil : i < (L s).length := by rw [L_length]; exact hlt
    have hb := bt_L s i hlt
    rw [List.drop_eq_getElem_cons hil]
    by_cases hc : (L s)[i] = 61
    · obtain ⟨k, hk⟩ := ih (i + 1) (acc ++ [(numS ((L s).drop (i + 1)) 0 : Int)]) (by omega) (by omega) (by simp; omega)
      obtain ⟨k1, hk1⟩ := rp_l1 s hs acc (by omega) i k (s.size - (i + 1)) (i + 1) 0 rfl (by omega) (by omega)
      refine ⟨k1 + 1, ?_⟩
      simp only [marlinspikeref06_Parse.l0]
      rw [if_pos (by omega), if_pos (by omega), hb, if_pos (by rw [hc]; rfl), wrap_nat (by omega)]
      rw [show ((0 : Nat) : Int) = 0 from rfl, wrap_nat (by omega)] at hk1
      rw [hk1, hk, scanL, if_pos hc, List.append_assoc]
      rfl
    · obtain ⟨k, hk⟩ := ih (i + 1) acc (by omega) (by omega) (by omega)
      refine ⟨k + 1, ?_⟩
      simp only [marlinspikeref06_Parse.l0]
      rw [if_pos (by omega), if_pos (by omega), hb, if_neg (fun h => hc (UInt8.toNat_inj.1 (by have : ((L s)[i]).toNat = 61 := by omega
                                                                                               rw [this]; rfl))), wrap_nat (by omega), hk, scanL, if_neg hc]
def candA (l : List Int) (b : Nat) : Int × Nat := if b % 2 = 1 ∧ 0 < l.length then (l.getD 0 0, 1) else (0, 0)
def candB (l : List Int) (b k : Nat) : Int × Nat := if b / 2 % 2 = 1 ∧ k < l.length then (l.getD k 0, k + 1) else (0, k)
def candC (l : List Int) (b k : Nat) : Int × Nat := if b / 4 = 1 ∧ k < l.length then (l.getD k 0, k + 1) else (0, k)
def candV (l : List Int) (b : Nat) : Int × Int × Int := ((candA l b).1, (candB l b (candA l b).2).1, (candC l b (candB l b (candA l b).2).2).1)
def candK (l : List Int) (b : Nat) : Nat := (candC l b (candB l b (candA l b).2).2).2
def okC (s : ByteArray) (l : List Int) (b : Nat) : Prop := candK l b = l.length ∧ rightB (candV l b).1 (candV l b).2.1 (candV l b).2.2 = true ∧ fmtL (candV l b).1 (candV l b).2.1 (candV l b).2.2 = L s
instance (s : ByteArray) (l : List Int) (b : Nat) : Decidable (okC s l b) := by unfold okC; infer_instance
theorem rp_j8 (s : ByteArray) (l : List Int) (b k : Nat) (hb : b < 8) (u v w : Int) (K : Nat) (hK : 40 ≤ K) :
    marlinspikeref06_Parse.j8 (K + 1) s l b k u v w = if k = l.length ∧ rightB u v w = true ∧ fmtL u v w = L s then some (u, v, w, 0) else marlinspikeref06_Parse.l2 K s l ((b + 1 : Nat) : Int) := by
  simp only [marlinspikeref06_Parse.j8]
  rw [rRight_f, wrap_nat (by omega)]
  simp only [Option.bind_some]
  by_cases h1 : k = l.length
  · rw [if_pos (by omega)]
    by_cases h2 : rightB u v w = true
    · obtain ⟨i1, i2, i3⟩ := right_i64 h2
      rw [if_pos h2, rfmt_f u v w i1 i2 i3]
      simp only [Option.bind_some]
      rw [toList_L, toList_L, L_mkB]
      by_cases h3 : fmtL u v w = L s
      · rw [if_pos h3, if_pos ⟨h1, h2, h3⟩]
      · rw [if_neg h3, if_neg (fun h => h3 h.2.2)]
    · rw [if_neg h2, if_neg (fun h => h2 h.2.1)]
  · rw [if_neg (by omega), if_neg (fun h => h1 h.1)]
theorem rd_nat (l : List Int) (k : Nat) : rd l (k : Int) = l.getD k 0 := by simp [rd]
theorem rp_j7 (s : ByteArray) (l : List Int) (b k : Nat) (hk : k < 1000) (u v w : Int) (K : Nat) (q : Bool) :
    marlinspikeref06_Parse.j7 (K + 1) s l b k (q && decide ((k : Int) < (l.length : Int))) u v w = if q = true ∧ k < l.length then marlinspikeref06_Parse.j8 K s l b ((k + 1 : Nat) : Int) u v (l.getD k 0) else marlinspikeref06_Parse.j8 K s l b k u v w := by
  simp only [marlinspikeref06_Parse.j7]
  by_cases h : q = true ∧ k < l.length
  · obtain ⟨rfl, h⟩ := h
    rw [if_pos (by simp; omega), if_pos (by omega), if_pos (by omega), if_pos ⟨rfl, h⟩, rd_nat, wrap_nat (by omega)]
  · rw [if_neg h, if_neg]
    intro h2
    rw [Bool.and_eq_true, decide_eq_true_eq] at h2
    exact h ⟨h2.1, by omega⟩
theorem rp_j5 (s : ByteArray) (l : List Int) (b k : Nat) (hk : k < 1000) (u v w : Int) (K : Nat) (q : Bool) :
    marlinspikeref06_Parse.j5 (K + 1) s l b k (q && decide ((k : Int) < (l.length : Int))) u v w = if q = true ∧ k < l.length then marlinspikeref06_Parse.j6 K s l b ((k + 1 : Nat) : Int) u (l.getD k 0) w else marlinspikeref06_Parse.j6 K s l b k u v w := by
  simp only [marlinspikeref06_Parse.j5]
  by_cases h : q = true ∧ k < l.length
  · obtain ⟨rfl, h⟩ := h
    rw [if_pos (by simp; omega), if_pos (by omega), if_pos (by omega), if_pos ⟨rfl, h⟩, rd_nat, wrap_nat (by omega)]
  · rw [if_neg h, if_neg]
    intro h2
    rw [Bool.and_eq_true, decide_eq_true_eq] at h2
    exact h ⟨h2.1, by omega⟩
theorem rp_j3 (s : ByteArray) (l : List Int) (b : Nat) (u v w : Int) (K : Nat) (q : Bool) :
    marlinspikeref06_Parse.j3 (K + 1) s l b 0 (q && decide ((0 : Int) < (l.length : Int))) u v w = if q = true ∧ 0 < l.length then marlinspikeref06_Parse.j4 K s l b 1 (l.getD 0 0) v w else marlinspikeref06_Parse.j4 K s l b 0 u v w := by
  simp only [marlinspikeref06_Parse.j3]
  by_cases h : q = true ∧ 0 < l.length
  · obtain ⟨rfl, h⟩ := h
    rw [if_pos (by simp; omega), if_pos (by omega), if_pos (by omega), if_pos ⟨rfl, h⟩, show wrap64 (0 + 1) = 1 from by unfold wrap64; omega, show rd l 0 = l.getD 0 0 from rfl]
  · rw [if_neg h, if_neg]
    intro h2
    rw [Bool.and_eq_true, decide_eq_true_eq] at h2
    exact h ⟨h2.1, by omega⟩
theorem rp_j6 (s : ByteArray) (l : List Int) (b k : Nat) (hb : b < 8) (hk : k < 1000) (u v w : Int) (K : Nat) :
    marlinspikeref06_Parse.j6 (K + 1 + 1) s l b k u v w = if b / 4 = 1 ∧ k < l.length then marlinspikeref06_Parse.j8 K s l b ((k + 1 : Nat) : Int) u v (l.getD k 0) else marlinspikeref06_Parse.j8 K s l b k u v w := by
  have e : wrap64 (Int.tdiv (b : Int) 4) = ((b / 4 : Nat) : Int) := by
    rw [Int.tdiv_eq_ediv_of_nonneg (by omega)]; unfold wrap64; omega
  rw [marlinspikeref06_Parse.j6, e]
  by_cases h : b / 4 = 1
  · rw [if_pos (by omega)]
    have := rp_j7 s l b k hk u v w K true
    rw [Bool.true_and] at this
    rw [this]
    simp [h]
  · rw [if_neg (by omega)]
    have := rp_j7 s l b k hk u v w K false
    rw [Bool.false_and] at this
    rw [this]
    simp [h]
theorem rp_j4 (s : ByteArray) (l : List Int) (b k : Nat) (hb : b < 8) (hk : k < 1000) (u v w : Int) (K : Nat) :
    marlinspikeref06_Parse.j4 (K + 1 + 1) s l b k u v w = if b / 2 % 2 = 1 ∧ k < l.length then marlinspikeref06_Parse.j6 K s l b ((k + 1 : Nat) : Int) u (l.getD k 0) w else marlinspikeref06_Parse.j6 K s l b k u v w := by
  have e : Int.tmod (wrap64 (Int.tdiv (b : Int) 2)) 2 = ((b / 2 % 2 : Nat) : Int) := by
    have e1 : wrap64 (Int.tdiv (b : Int) 2) = ((b / 2 : Nat) : Int) := by rw [Int.tdiv_eq_ediv_of_nonneg (by omega)]; unfold wrap64; omega
    rw [e1, Int.tmod_eq_emod_of_nonneg (by omega)]; omega
  rw [marlinspikeref06_Parse.j4, e]
  by_cases h : b / 2 % 2 = 1
  · rw [if_pos (by omega)]
    have := rp_j5 s l b k hk u v w K true
    rw [Bool.true_and] at this
    rw [this]
    simp [h]
  · rw [if_neg (by omega)]
    have := rp_j5 s l b k hk u v w K false
    rw [Bool.false_and] at this
    rw [this]
    simp [h]
theorem rp_l2 (s : ByteArray) (l : List Int) (b : Nat) (hb : b < 8) (K : Nat) (hK : 40 ≤ K) :
    marlinspikeref06_Parse.l2 (K + 1 + 1 + 1 + 1 + 1 + 1 + 1) s l b = if okC s l b then some ((candV l b).1, (candV l b).2.1, (candV l b).2.2, 0) else marlinspikeref06_Parse.l2 K s l ((b + 1 : Nat) : Int) := by
  have e : Int.tmod (b : Int) 2 = ((b % 2 : Nat) : Int) := by rw [Int.tmod_eq_emod_of_nonneg (by omega)]; omega
  have s1 : marlinspikeref06_Parse.l2 (K + 1 + 1 + 1 + 1 + 1 + 1 + 1) s l b = marlinspikeref06_Parse.j4 (K + 1 + 1 + 1 + 1 + 1) s l b ((candA l b).2 : Nat) (candA l b).1 0 0 := by
    rw [marlinspikeref06_Parse.l2, if_pos (by omega), e]
    unfold candA
    by_cases h : b % 2 = 1
    · rw [if_pos (by omega)]
      have := rp_j3 s l b 0 0 0 (K + 1 + 1 + 1 + 1 + 1) true
      rw [Bool.true_and] at this
      rw [this]
      by_cases h2 : 0 < l.length
      · rw [if_pos ⟨rfl, h2⟩, if_pos ⟨h, h2⟩]; rfl
      · rw [if_neg (fun h => h2 h.2), if_neg (fun h => h2 h.2)]; rfl
    · rw [if_neg (by omega)]
      have := rp_j3 s l b 0 0 0 (K + 1 + 1 + 1 + 1 + 1) false
      rw [Bool.false_and] at this
      rw [this, if_neg (by simp), if_neg (fun h' => h h'.1)]; rfl
  have ka : (candA l b).2 ≤ 1 := by unfold candA; split <;> simp
  have kb : (candB l b (candA l b).2).2 ≤ 2 := by unfold candB; split <;> simp <;> omega
  rw [s1, rp_j4 s l b _ hb (by omega)]
  have s2 : (if b / 2 % 2 = 1 ∧ (candA l b).2 < l.length then marlinspikeref06_Parse.j6 (K + 1 + 1 + 1) s l b (((candA l b).2 + 1 : Nat) : Int) (candA l b).1 (l.getD (candA l b).2 0) 0 else marlinspikeref06_Parse.j6 (K + 1 + 1 + 1) s l b ((candA l b).2 : Nat) (candA l b).1 0 0)
      = marlinspikeref06_Parse.j6 (K + 1 + 1 + 1) s l b ((candB l b (candA l b).2).2 : Nat) (candA l b).1 (candB l b (candA l b).2).1 0 := by
    unfold candB; split <;> rfl
  rw [s2, rp_j6 s l b _ hb (by omega)]
  have s3 : (if b / 4 = 1 ∧ (candB l b (candA l b).2).2 < l.length then marlinspikeref06_Parse.j8 (K + 1) s l b (((candB l b (candA l b).2).2 + 1 : Nat) : Int) (candA l b).1 (candB l b (candA l b).2).1 (l.getD (candB l b (candA l b).2).2 0) else marlinspikeref06_Parse.j8 (K + 1) s l b ((candB l b (candA l b).2).2 : Nat) (candA l b).1 (candB l b (candA l b).2).1 0)
      = marlinspikeref06_Parse.j8 (K + 1) s l b (candK l b : Nat) (candV l b).1 (candV l b).2.1 (candV l b).2.2 := by
    unfold candK candV candC; split <;> rfl
  rw [s3, rp_j8 s l b _ hb _ _ _ K hK]
  rfl
theorem rp_all (s : ByteArray) (l : List Int) : ∀ (m b : Nat), b + m = 8 → ∃ k, 40 ≤ k ∧
    ((∃ b', b ≤ b' ∧ b' < 8 ∧ okC s l b' ∧ marlinspikeref06_Parse.l2 k s l b = some ((candV l b').1, (candV l b').2.1, (candV l b').2.2, 0)) ∨ ((∀ b', b ≤ b' → b' < 8 → ¬ okC s l b') ∧ marlinspikeref06_Parse.l2 k s l b = some (0, 0, 0, 3))) := by
  intro m
  induction m with
  | zero =>
    intro b hb
    obtain rfl : b = 8 := by omega
    refine ⟨41, by omega, .inr ⟨fun b' h1 h2 => by omega, ?_⟩⟩
    rw [marlinspikeref06_Parse.l2, if_neg (by omega)]
  | succ m ih =>
    intro b hb
    obtain ⟨k, hk, h⟩ := ih (b + 1) (by omega)
    refine ⟨k + 1 + 1 + 1 + 1 + 1 + 1 + 1, by omega, ?_⟩
    rw [rp_l2 s l b (by omega) k hk]
    by_cases ho : okC s l b
    · rw [if_pos ho]
      exact .inl ⟨b, Nat.le_refl _, by omega, ho, rfl⟩
    · rw [if_neg ho]
      rcases h with ⟨b', h1, h2, h3, h4⟩ | ⟨h1, h2⟩
      · exact .inl ⟨b', by omega, h2, h3, h4⟩
      · refine .inr ⟨fun b' h3 h4 => ?_, h2⟩
        by_cases e : b' = b
        · rw [e]; exact ho
        · exact h1 b' (by omega) h4
theorem numS_digits (rest : List UInt8) (hr : rest = [] ∨ ∃ r, rest = 44 :: r) : ∀ (l : List UInt8), (∀ c ∈ l, isDig c = true) → ∀ m, valA m l ≤ 1073741824 → numS (l ++ rest) m = valA m l
  | [], _, m, _ => by
    rcases hr with rfl | ⟨r, rfl⟩
    · rfl
    · show numS (44 :: r) m = m
      rw [numS, if_neg (fun h => absurd h.1 (by decide))]
  | c :: l, hd, m, hm => by
    have hc := (isDig_iff c).1 (hd c (by simp))
    have h1 := valA_ge l (m * 10 + (c.toNat - 48))
    have hp : 1 ≤ 10 ^ l.length := Nat.one_le_pow _ _ (by decide)
    have h2 : valA m (c :: l) = valA (m * 10 + (c.toNat - 48)) l := rfl
    have h3 : (m * 10 + (c.toNat - 48)) * 1 ≤ (m * 10 + (c.toNat - 48)) * 10 ^ l.length := Nat.mul_le_mul_left _ hp
    rw [List.cons_append, numS, if_pos ⟨hc.1, hc.2, by omega⟩, numS_digits rest hr l (fun d hd' => hd d (by simp [hd'])) _ (by rw [← h2]; exact hm)]
    rfl
theorem scan_plain : ∀ (l rest : List UInt8), (∀ c ∈ l, c ≠ 61) → scanL (l ++ rest) = scanL rest
  | [], rest, _ => rfl
  | c :: l, rest, h => by
    rw [List.cons_append, scanL, if_neg (h c (by simp))]
    exact scan_plain l rest (fun d hd => h d (by simp [hd]))
theorem nm_no (k : Nat) : ∀ c ∈ nm k, c ≠ 61 := by
  intro c hc
  match k, hc with
  | 0, hc => simp [nm] at hc; rcases hc with rfl | rfl | rfl <;> decide
  | 1, hc => simp [nm] at hc; rcases hc with rfl | rfl | rfl <;> decide
  | (k + 2), hc => simp [nm] at hc; rcases hc with rfl | rfl | rfl <;> decide
theorem scan_part (k : Nat) (n : Int) (h : okN n = true) (rest : List UInt8) (hr : rest = [] ∨ ∃ r, rest = 44 :: r) : scanL (partL k n ++ rest) = n :: scanL rest := by
  simp only [okN, Bool.and_eq_true, decide_eq_true_eq] at h
  obtain ⟨d1, d2, _, _⟩ := dec_digits n.toNat
  have hi : Go.Lib.itoa n = Go.Lib.decDigits n.toNat := by unfold Go.Lib.itoa; rw [if_neg (by omega)]
  have d2' : valA 0 (Go.Lib.decDigits n.toNat) = n.toNat := d2
  unfold partL
  rw [List.append_assoc, scan_plain _ _ (nm_no k), List.cons_append, scanL, if_pos rfl, hi, numS_digits rest hr _ d1 0 (by rw [d2']; omega), d2', scan_plain _ _ (fun c hc e => by rw [e] at hc; exact absurd (d1 61 hc) (by decide))]
  congr 1
  omega
def nz (a b c : Int) : List Int := (if a = 0 then [] else [a]) ++ (if b = 0 then [] else [b]) ++ (if c = 0 then [] else [c])
theorem scan_fmt (a b c : Int) (h : rightB a b c = true) : scanL (fmtL a b c) = nz a b c := by
  simp only [rightB, Bool.and_eq_true] at h
  obtain ⟨⟨ha, hb⟩, hc⟩ := h
  have p0 := scan_part 0 a ha
  have p1 := scan_part 1 b hb
  have p2 := scan_part 2 c hc
  have q0 := p0 [] (.inl rfl)
  have q1 := p1 [] (.inl rfl)
  have q2 := p2 [] (.inl rfl)
  have n44 : ∀ r, scanL (44 :: r) = scanL r := fun r => by rw [scanL, if_neg (by decide)]
  have hn : scanL noneL = [] := by decide
  rw [List.append_nil] at q0 q1 q2
  have e1 : ∀ x y : List UInt8, Go.Lib.join [x, y] [44] = x ++ 44 :: y := fun x y => by simp [Go.Lib.join, List.intercalate]
  have e2 : ∀ x y z : List UInt8, Go.Lib.join [x, y, z] [44] = x ++ 44 :: (y ++ 44 :: z) := fun x y z => by simp [Go.Lib.join, List.intercalate]
  have e0 : ∀ x : List UInt8, Go.Lib.join [x] [44] = x := fun x => by simp [Go.Lib.join, List.intercalate]
  unfold fmtL partsL one nz
  by_cases h0 : a = 0 <;> by_cases h1 : b = 0 <;> by_cases h2 : c = 0 <;>
    simp [h0, h1, h2, hn, e0, e1, e2, q0, q1, q2, p0 (44 :: _) (.inr ⟨_, rfl⟩), p1 (44 :: _) (.inr ⟨_, rfl⟩), n44, scanL]
def bitsOf (a b c : Int) : Nat := (if a = 0 then 0 else 1) + (if b = 0 then 0 else 2) + (if c = 0 then 0 else 4)
theorem cand_nz (a b c : Int) : candV (nz a b c) (bitsOf a b c) = (a, b, c) ∧ candK (nz a b c) (bitsOf a b c) = (nz a b c).length ∧ bitsOf a b c < 8 ∧ (nz a b c).length ≤ 3 := by
  unfold candV candK candC candB candA nz bitsOf
  by_cases h0 : a = 0 <;> by_cases h1 : b = 0 <;> by_cases h2 : c = 0 <;> simp [h0, h1, h2]
theorem fmt_len (a b c : Int) (h : rightB a b c = true) : (fmtL a b c).length ≤ 60 := by
  simp only [rightB, okN, Bool.and_eq_true, decide_eq_true_eq] at h
  have hp : ∀ k n, 0 ≤ n → n ≤ 1073741824 → (partL k n).length ≤ 14 := by
    intro k n h1 h2
    unfold partL Go.Lib.itoa
    rw [if_neg (by omega), List.length_append, nm_len, List.length_cons, Go.Lib.decDigits_length]
    have := nDigits_le 9 n.toNat (by omega)
    omega
  have h0 := hp 0 a (by omega) (by omega)
  have h1 := hp 1 b (by omega) (by omega)
  have h2 := hp 2 c (by omega) (by omega)
  have l0 : (addP [] 0 a).length ≤ 14 := by unfold addP; split; simp; rw [if_pos rfl]; exact h0
  have l1 : (addP (addP [] 0 a) 1 b).length ≤ 29 := by
    generalize addP [] 0 a = u at l0
    unfold addP; split; omega; split; omega; rw [List.length_append, List.length_cons]; omega
  have l2 : (addP (addP (addP [] 0 a) 1 b) 2 c).length ≤ 44 := by
    generalize addP (addP [] 0 a) 1 b = u at l1
    unfold addP; split; omega; split; omega; rw [List.length_append, List.length_cons]; omega
  rw [fmt_add]
  split
  · decide
  · omega
theorem rParse_f (s : ByteArray) : ∃ k, marlinspikeref06_Parse.f k s = some ((parseV s).1, (parseV s).2.1, (parseV s).2.2, parseE s) := by
  unfold marlinspikeref06_Parse.f
  by_cases h60 : s.size > 60
  · refine ⟨0, ?_⟩
    have hp : parseL (L s) = none := by
      cases hv : parseL (L s) with
      | none => rfl
      | some v =>
        obtain ⟨h1, h2⟩ := parse_sound hv
        have := fmt_len _ _ _ h1
        rw [h2, L_length] at this
        omega
    rw [if_pos (by omega)]
    unfold parseV parseE
    rw [hp]; rfl
  · obtain ⟨K, hK, hall⟩ := rp_all s (scanL (L s)) 8 0 rfl
    obtain ⟨k, hk⟩ := rp_l0 s (by omega) K (s.size - 0) 0 [] rfl (by omega) (by simp)
    refine ⟨k, ?_⟩
    rw [if_neg (by omega)]
    rw [show ((0 : Nat) : Int) = 0 from rfl] at hk hall
    rw [hk, List.drop_zero, List.nil_append]
    cases hv : parseL (L s) with
    | none =>
      have e : parseV s = (0, 0, 0) ∧ parseE s = 3 := by unfold parseV parseE; rw [hv]; exact ⟨rfl, rfl⟩
      rw [e.1, e.2]
      by_cases h3 : (scanL (L s)).length > 3
      · rw [if_pos h3]
      · rw [if_neg h3]
        rcases hall with ⟨b', _, hb', ho, hl⟩ | ⟨_, hl⟩
        · have := (parse_iff (L s) _ _ _).2 ho.2
          rw [hv] at this; cases this
        · rw [hl]
    | some v =>
      obtain ⟨h1, h2⟩ := parse_sound hv
      have e : parseV s = v ∧ parseE s = 0 := by unfold parseV parseE; rw [hv]; exact ⟨rfl, rfl⟩
      rw [e.1, e.2]
      have hs : scanL (L s) = nz v.1 v.2.1 v.2.2 := by rw [← h2, scan_fmt _ _ _ h1]
      obtain ⟨c1, c2, c3, c4⟩ := cand_nz v.1 v.2.1 v.2.2
      rw [hs] at hall ⊢
      rw [if_neg (by omega)]
      rcases hall with ⟨b', _, hb', ho, hl⟩ | ⟨hno, hl⟩
      · have h5 := (parse_iff (L s) _ _ _).2 ho.2
        rw [hv] at h5
        injection h5 with h5
        have h6 := congrArg Prod.fst h5
        have h7 := congrArg (fun p => p.2.1) h5
        have h8 := congrArg (fun p => p.2.2) h5
        simp only at h6 h7 h8
        rw [hl, ← h6, ← h7, ← h8]
      · exact absurd ⟨c2, by rw [c1]; exact h1, by rw [c1]; exact h2⟩ (hno (bitsOf v.1 v.2.1 v.2.2) (by omega) c3)
theorem texts_law (a b c : Int) (s : ByteArray) (ha : I64 a) (hb : I64 b) (hc : I64 c) (hs : s.size ≤ 140737488351232) : ∃ k, marlinspikelaw06_VecTexts.f k a b c s = some true := by
  obtain ⟨k, hk⟩ := rParse_f s
  refine ⟨k, ?_⟩
  unfold marlinspikelaw06_VecTexts.f vec_Parse.f vec_Format.f
  rw [if_pos hs, hk, if_pos ⟨ha, hb, hc⟩, rfmt_f a b c ha hb hc]
  simp [marlinspikelaw06_alive.f]
end Go.Proofs.YtcpikafmclfcfaaDoor.Vc
end
section
namespace Go.Proofs.YtcpikafmclfcfaaDoor.Vc
open Go.RowKit Go.Proofs.YtcpikafmclfcfaaDoorW.PrintWords Go.Proofs.YtcpikafmclfcfaaDoor.PV Go.Proofs.YtcpikafmclfcfaaDoor.Op Go.Proofs.YtcpikafmclfcfaaDoor.Vl
abbrev wfI (y : Int) : Prop := (Lit.int .i64 y).wf = true
theorem wf_i64 {y : Int} (h : wfI y) : I64 y := by
  have := Go.bounds_i64 h
  unfold I64; omega
theorem vec_opens : Opens Tryd.prog 23 k23.K (fun x => wfI x.f0 ∧ wfI x.f1 ∧ wfI x.f2) :=
  opens_iso (fun x : S23 => (x.f0, x.f1, x.f2)) (fun p => ⟨p.1, p.2.1, p.2.2⟩) (fun _ => rfl)
    (opens_struct (sz := 3) Tryd.underlying23 (by kernel_rfl)
      (opensF_cons (off := 0) (a := Kd.int .i64) (b := Kd.pair (Kd.int .i64) (Kd.int .i64)) (Ga := wfI) (Gb := fun y => wfI y.1 ∧ wfI y.2) 3 rfl rfl (by kernel_rfl) (opens_int Tryd.underlying3)
        (opensF_cons (off := 1) (a := Kd.int .i64) (b := Kd.int .i64) (Ga := wfI) (Gb := wfI) 3 rfl rfl (by kernel_rfl) (opens_int Tryd.underlying3) (opensF_one 3 rfl rfl (by kernel_rfl) (opens_int Tryd.underlying3)))))
end Go.Proofs.YtcpikafmclfcfaaDoor.Vc
end
section
namespace Go.Proofs.YtcpikafmclfcfaaDoor.vecTexts
open Go.ChangeShapes Go.WideShapes Go.ChangeAt Go.RowKit
open Go.ChangeMaps (open_string shut_string)
open Go.Proofs.YtcpikafmclfcfaaDoorW.PrintWords 
set_option linter.unusedVariables false
set_option maxRecDepth 100000
theorem own : ownKnob Tryd.prog.godebug = none := by kernel_rfl
theorem laidOut : laidOutB Tryd.prog = true := by kernel_rfl
theorem laid_met (os : Os) : laidMet Tryd.prog Rows.vecTextsRow.laid ((World.laidAll Tryd.prog os Rows.vecTextsRow.laid).forCall (fun _ _ => 0) ⟨#[], #[.agg #[.int .i64 0, .int .i64 0, .int .i64 0], .string ⟨#[]⟩], []⟩).memory :=
  laidMet_laidAll _ (by kernel_rfl) (by kernel_rfl)
theorem witness_row (os : Os) {H : Type} (enc : TypeId × Value → H) :
    (OpenSpec.ofChange Rows.vecTextsSpec).preRow enc Tryd.prog Tryd.f3 Rows.vecTextsRow.domain false Rows.vecTextsRow.laid ((World.laidAll Tryd.prog os Rows.vecTextsRow.laid).forCall (fun _ _ => 0) ⟨#[], #[.agg #[.int .i64 0, .int .i64 0, .int .i64 0], .string ⟨#[]⟩], []⟩).memory #[.agg #[.int .i64 0, .int .i64 0, .int .i64 0], .string ⟨#[]⟩] := by
  have hw : (DataW.whole enc Tryd.prog ((World.laidAll Tryd.prog os Rows.vecTextsRow.laid).forCall (fun _ _ => 0) ⟨#[], #[.agg #[.int .i64 0, .int .i64 0, .int .i64 0], .string ⟨#[]⟩], []⟩).memory Tryd.f3.params.toList (OpenSpec.ofChange Rows.vecTextsSpec).vars false #[.agg #[.int .i64 0, .int .i64 0, .int .i64 0], .string ⟨#[]⟩].toList 8).map (fun x => (x.1, x.2.1)) =
      some ([.agg [.lit (.int .i64 0), .lit (.int .i64 0), .lit (.int .i64 0)], .lit (.string [])], []) := by kernel_rfl
  obtain ⟨⟨x1, x2, x3⟩, hx, hx1⟩ := Option.map_eq_some_iff.1 hw
  simp only [Prod.mk.injEq] at hx1
  obtain ⟨rfl, rfl⟩ := hx1
  exact OpenSpec.preRow_of_cond 8 hx (by kernel_rfl) (fun k hk => by cases hk) (by kernel_rfl) (laid_met os)
theorem star : "*" ++ "errors.errorString" = "*errors.errorString" := by decide
theorem row_err (u : TypeId) (h : Tryd.prog.typeName? 3 u = some "*errors.errorString") : u = 149 :=
  typeName_ptr_named (nm := "errors.errorString") (by rw [star]; kernel_rfl) (by kernel_rfl) (by decide) u (by rw [star]; exact h)
theorem glob {W : World} (h : laidMetH Tryd.prog Rows.vecTextsRow.laid W) : Lib.Glob W := by
  rw [MakeChecks.laidMetH_plain _ _ _ (by kernel_rfl)] at h
  have h0 : laidMet Tryd.prog Rows.vecTextsRow.laid W := h
  have h1 : laidMet Tryd.prog [("math/bits.deBruijn64tab", Rows.laid_math_bits_deBruijn64tab), ("internal/strconv.uint64pow10", Rows.laid_internal_strconv_uint64pow10), ("unicode/utf8.acceptRanges", Rows.laid_unicode_utf8_acceptRanges), ("strconv.ErrRange", Rows.laid_strconv_ErrRange), ("strconv.ErrSyntax", Rows.laid_strconv_ErrSyntax), ("unicode/utf8.first", Rows.laid_unicode_utf8_first)] W := laidMet.tail h0
  have h2 : laidMet Tryd.prog [("internal/strconv.uint64pow10", Rows.laid_internal_strconv_uint64pow10), ("unicode/utf8.acceptRanges", Rows.laid_unicode_utf8_acceptRanges), ("strconv.ErrRange", Rows.laid_strconv_ErrRange), ("strconv.ErrSyntax", Rows.laid_strconv_ErrSyntax), ("unicode/utf8.first", Rows.laid_unicode_utf8_first)] W := laidMet.tail h1
  have h3 : laidMet Tryd.prog [("unicode/utf8.acceptRanges", Rows.laid_unicode_utf8_acceptRanges), ("strconv.ErrRange", Rows.laid_strconv_ErrRange), ("strconv.ErrSyntax", Rows.laid_strconv_ErrSyntax), ("unicode/utf8.first", Rows.laid_unicode_utf8_first)] W := laidMet.tail h2
  have h4 : laidMet Tryd.prog [("strconv.ErrRange", Rows.laid_strconv_ErrRange), ("strconv.ErrSyntax", Rows.laid_strconv_ErrSyntax), ("unicode/utf8.first", Rows.laid_unicode_utf8_first)] W := laidMet.tail h3
  have h5 : laidMet Tryd.prog [("strconv.ErrSyntax", Rows.laid_strconv_ErrSyntax), ("unicode/utf8.first", Rows.laid_unicode_utf8_first)] W := laidMet.tail h4
  have h6 : laidMet Tryd.prog [("unicode/utf8.first", Rows.laid_unicode_utf8_first)] W := laidMet.tail h5
  have h7 : laidMet Tryd.prog [] W := laidMet.tail h6
  obtain ⟨a1, s1, v1, _⟩ := laid_sentinel (g := 1) h5 (by kernel_rfl) (by kernel_rfl) Tryd.underlying62 row_err Tryd.underlying149 Tryd.underlying151 rfl rfl Tryd.underlying9 (by kernel_rfl) (by kernel_rfl)
  obtain ⟨a2, s2, v2, _⟩ := laid_sentinel (g := 2) h4 (by kernel_rfl) (by kernel_rfl) Tryd.underlying62 row_err Tryd.underlying149 Tryd.underlying151 rfl rfl Tryd.underlying9 (by kernel_rfl) (by kernel_rfl)
  refine ⟨Go.Lib.tabIs_of_head Lib.g_tab (by kernel_rfl) Tryd.underlying153 Tryd.underlying95 (by kernel_rfl) (by kernel_rfl) h2, ⟨_, _, v1⟩, ⟨_, _, v2⟩⟩
set_option maxHeartbeats 4000000 in
theorem lifted (os : Os) (started : os.Started) (H : Type) (enc : TypeId × Value → H) (F : Stop.Interp) :
    ReturnsInHanded {} Tryd.checked os 3 .any ((OpenSpec.ofChange Rows.vecTextsSpec).preRow enc Tryd.prog Tryd.f3 Rows.vecTextsRow.domain false Rows.vecTextsRow.laid) (((OpenSpec.ofChange Rows.vecTextsSpec).at F).post enc Tryd.prog Tryd.f3 false true false false) := by
  refine returnsInHanded_of_row (C := Tryd.checked) (s := (OpenSpec.ofChange Rows.vecTextsSpec)) own started (by kernel_rfl) Tryd.func3
    (witness_row_atRef (enc := enc) (C := Tryd.checked) false (World.laidAll Tryd.prog os Rows.vecTextsRow.laid) #[.agg #[.int .i64 0, .int .i64 0, .int .i64 0], .string ⟨#[]⟩] (World.laidAll_os _ _ _) (by kernel_rfl) (by kernel_rfl) (by kernel_rfl) (witness_row os enc)) ?_
  intro W base args ds gs before hval0 hW _ _ hsz0 hL _ _
  have hsz : (DataW.weightsEach Tryd.prog (Tryd.f3.params.toList ++ (OpenSpec.ofChange Rows.vecTextsSpec).bare.plain.varTypes Tryd.prog) (ds ++ gs)).all (· ≤ reachBytes) = true := hsz0
  have hval : ∀ (j : Nat) t v, Tryd.f3.params[j]? = some t → args[j]? = some v → Value.okWide Tryd.prog W .any base t v := hval0
  have hG := glob hL
  have hW' := hW
  obtain ⟨p, q, hA0, hV, rfl, hfz, hnd⟩ := hW
  have hA : DataW.TrodAll enc Tryd.prog W 0 (fun _ => true) true Tryd.f3.params.toList args.toList ds p := hA0
  rw [Tryd.params3] at hA hval hsz
  obtain ⟨v0, vs0, d0, ds0, p0, q0, hargs, rfl, rfl, t0, r0⟩ := trodAll_cons hA
  obtain ⟨v1, vs1, d1, ds1, p1, q1, rfl, rfl, rfl, t1, r1⟩ := trodAll_cons r0
  obtain ⟨rfl, rfl, rfl⟩ := trodAll_nil r1
  obtain rfl : args = #[v0, v1] := by cases args; simp_all
  obtain ⟨rfl, rfl⟩ := trodVars_none hV
  have k0 := t0
  have y0 := hval 0 23 v0 rfl rfl
  obtain ⟨x0, kx0, gx0⟩ := Op.opens_arg Vc.vec_opens t0
  have e0 := PV.k23_open kx0
  obtain rfl : v0 = .agg #[.int .i64 x0.f0, .int .i64 x0.f1, .int .i64 x0.f2] := Op.agg_of e0
  have k1 := t1
  have y1 := hval 1 9 v1 rfl rfl
  obtain ⟨z1, rfl, rfl, rfl, yy1⟩ := open_string Tryd.underlying9 y1 t1
  have wz1 : z1.size ≤ 140737488351232 := by
    have z := sized_string hsz (j := 1) (t := 9) rfl rfl
    rw [Array.length_toList] at z
    exact z
  clear hA0 hval0 hsz0 hsz
  refine (PY.marlinspikelaw06_VecTexts.calls _ x0.f0 x0.f1 x0.f2 z1 true W (Vc.texts_law x0.f0 x0.f1 x0.f2 z1 (Vc.wf_i64 gx0.1) (Vc.wf_i64 gx0.2.1) (Vc.wf_i64 gx0.2.2) wz1).choose_spec hG).mono fun e W' ⟨he, bel⟩ => ?_
  subst he
  exact ⟨_, rfl, _, _, _, [], _, [], hW', trodAll_mk1 (shut_bool Tryd.underlying4 _), (trodAll_cons_mk (Below.trod laidOut (by kernel_rfl) (of_decide_eq_true (by kernel_rfl)) k0 bel (Op.trod_lt k0)) (trodAll_cons_mk (Below.trod laidOut (by kernel_rfl) (of_decide_eq_true (by kernel_rfl)) k1 bel (Op.trod_lt k1)) trodAll_mk0)), rfl, bel.frame _, fun h => by cases h⟩
theorem said : Rows.VecTextsSaid :=
  OpenClaim.holds_of_cond 3 Tryd.f3 rfl rfl rfl rfl rfl rfl rfl ⟨rfl, rfl, rfl, rfl, rfl⟩ rfl rfl rfl rfl rfl (by kernel_rfl) Tryd.func3 (by kernel_rfl)
    (of_decide_eq_true (by kernel_rfl)) (by unfold Func.isWrapper; first | (rw [if_pos (by decide +kernel)]; kernel_rfl) | (rw [if_neg (by decide +kernel)]; exact ⟨rfl, rfl⟩))
    (fun os started H enc _ F => by rw [OpenClaim.pre_eq_preRow]; exact lifted os started H enc F)
theorem plain (f : FuncId) (fn : Func) (hf : Tryd.pinned.checked.prog.funcNamed "marlinspike/marlinspikelaw06.VecTexts" = some f) (hfn : Tryd.pinned.checked.prog.funcs[f]? = some fn) :
    true = Tryd.pinned.checked.prog.looks [] ∧ ∀ (j : Nat) t, fn.params[j]? = some t → Tryd.pinned.checked.prog.wantsStandIn t = false := by
  obtain rfl : f = 3 := Option.some.inj ((show Tryd.prog.funcNamed "marlinspike/marlinspikelaw06.VecTexts" = some 3 by kernel_rfl).symm.trans hf) |>.symm
  obtain rfl : fn = Tryd.f3 := (Option.some.inj (Tryd.func3.symm.trans hfn)).symm
  refine ⟨by kernel_rfl, fun j t ht => ?_⟩
  rw [Tryd.params3] at ht
  have := Array.mem_of_getElem? ht
  have all : (#[23, 9] : Array TypeId).all (fun t => Tryd.prog.wantsStandIn t = false) = true := by kernel_rfl
  exact of_decide_eq_true (Array.all_eq_true_iff_forall_mem.1 all t this)
theorem card : Rows.VecTextsCardSaid :=
  Claim7.holds_tied_plain_at .later [] _ _ _ _ said (fun _ h => by cases h) (by kernel_rfl) (fun _ h => by cases h) vecTexts_row_tie rfl ⟨rfl, rfl⟩ (by kernel_rfl) rfl plain (by kernel_rfl)
#print axioms card
end Go.Proofs.YtcpikafmclfcfaaDoor.vecTexts
namespace Go.Proofs.YtcpikafmclfcfaaDoor
theorem vecTexts_card : Rows.VecTextsCardSaid := vecTexts.card
end Go.Proofs.YtcpikafmclfcfaaDoor
end
