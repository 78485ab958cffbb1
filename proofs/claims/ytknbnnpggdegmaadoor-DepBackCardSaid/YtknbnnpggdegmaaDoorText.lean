/- Dependencies' texts: what is parsed is formatted back. Plain Lean over the printed functions. -/
import Derived.Test.YtknbnnpggdegmaaDoorPDx5
import Derived.Test.YtknbnnpggdegmaaDoorNum
import Derived.Test.YtknbnnpggdegmaaDoorTxt
namespace Go.Proofs.YtknbnnpggdegmaaDoor.Tx
open Go.RowKit Go.Proofs.YtknbnnpggdegmaaDoorW.PrintWords Go.Proofs.YtknbnnpggdegmaaDoor.PD Go.Proofs.YtknbnnpggdegmaaDoor.Lib Go.Proofs.YtknbnnpggdegmaaDoor.Num Go.Proofs.YtknbnnpggdegmaaDoor.Txt
set_option linter.unusedVariables false
set_option linter.unusedSimpArgs false

def inr (lo hi : Nat) (c : UInt8) : Bool := decide (lo ≤ c.toNat) && decide (c.toNat ≤ hi)

theorem take_l0 (s : ByteArray) (lo hi x y t : Nat) (yy tt : Int) (hs : s.size ≤ 140737488351232) : ∀ (d p k : Nat), s.size - p = d → d < k → x ≤ p → p ≤ s.size →
    dep_reader_take.l0 k lo hi x s p yy tt = some (s.extract x (run (inr lo hi) (L s) p), s, ((run (inr lo hi) (L s) p : Nat) : Int), yy, tt) := by
  intro d
  induction d with
  | zero =>
    intro p k hd hk hx hp
    obtain ⟨k, rfl⟩ : ∃ m, k = m + 1 := ⟨k - 1, by omega⟩
    rw [run_end _ _ _ (by rw [L_length]; omega)]
    simp only [dep_reader_take.l0]
    rw [if_neg (by omega), if_pos (by omega), if_pos (by omega), if_pos (by omega)]
    simp
  | succ d ih =>
    intro p k hd hk hx hp
    obtain ⟨k, rfl⟩ : ∃ m, k = m + 1 := ⟨k - 1, by omega⟩
    have hlt : p < s.size := by omega
    have hl : p < (L s).length := by rw [L_length]; exact hlt
    have hb := bt_L s p hlt
    have e := ih (p + 1) k (by omega) (by omega) (by omega) (by omega)
    simp only [dep_reader_take.l0]
    rw [if_pos (by omega), if_pos (by omega), hb, wrap_nat (by omega)]
    cases hf : inr lo hi (L s)[p] with
    | true =>
      have : lo ≤ (L s)[p].toNat ∧ (L s)[p].toNat ≤ hi := by simpa [inr] using hf
      rw [if_pos (by omega), if_pos (by omega), e, run_on _ _ _ hl hf]
    | false =>
      have hn : ¬ (lo ≤ (L s)[p].toNat ∧ (L s)[p].toNat ≤ hi) := by
        intro h
        have : inr lo hi (L s)[p] = true := by simp [inr, h]
        rw [hf] at this; cases this
      rw [run_off _ _ _ hl hf]
      by_cases h1 : lo ≤ (L s)[p].toNat
      · rw [if_pos (by omega), if_neg (by omega), if_pos (by omega), if_pos (by omega), if_pos (by omega)]
        simp
      · rw [if_neg (by omega), if_pos (by omega), if_pos (by omega), if_pos (by omega)]
        simp

theorem take_f (s : ByteArray) (lo hi p k : Nat) (yy tt : Int) (hs : s.size ≤ 140737488351232) (hk : s.size < k) (hp : p ≤ s.size) :
    dep_reader_take.f k s p yy tt lo hi = some (s.extract p (run (inr lo hi) (L s) p), s, ((run (inr lo hi) (L s) p : Nat) : Int), yy, tt) :=
  take_l0 s lo hi p 0 0 yy tt hs (s.size - p) p k rfl (by omega) (Nat.le_refl _) hp

theorem wrong_f (s : ByteArray) (p a : Int) : ∃ y, y ≠ 0 ∧ dep_reader_wrong.f s p 0 0 a = some (s, p, y, a) := by
  unfold dep_reader_wrong.f
  by_cases h : a = (s.size : Int)
  · exact ⟨4, by decide, by simp [h]⟩
  · exact ⟨3, by decide, by simp [h]⟩
theorem wrong_keep (s : ByteArray) (p y t a : Int) (h : y ≠ 0) : dep_reader_wrong.f s p y t a = some (s, p, y, t) := by
  unfold dep_reader_wrong.f
  rw [if_neg (by simp [h])]

/-- The byte that comes next; 0 at the end. -/
def nx (s : ByteArray) (p : Nat) : Nat := if h : p < s.size then ((L s)[p]'(by rw [L_length]; exact h)).toNat else 0
theorem nx_lt (s : ByteArray) (p : Nat) (h : p < s.size) : nx s p = ((L s)[p]'(by rw [L_length]; exact h)).toNat := dif_pos h
theorem nx_end (s : ByteArray) (p : Nat) (h : ¬ p < s.size) : nx s p = 0 := dif_neg h
theorem next_f (s : ByteArray) (p : Nat) (y t : Int) (hp : p ≤ s.size) : dep_reader_next.f s p y t = some ((nx s p : Int), s, (p : Int), y, t) := by
  unfold dep_reader_next.f
  by_cases h : p < s.size
  · rw [if_neg (by omega), if_pos (by omega), if_pos (by omega), bt_L s p h, nx_lt s p h]
  · rw [if_pos (by omega), nx_end s p h]; rfl

theorem isDig_inr (c : UInt8) : inr 48 57 c = isDig c := rfl

/-- A job's number, where it is read: the digits, or a fault. -/
theorem job_f (s : ByteArray) (p : Nat) (hs : s.size ≤ 100000) (hp : p ≤ s.size) :
    (∃ v y t, y ≠ 0 ∧ dep_reader_job.f s p 0 0 = some (v, s, ((run (inr 48 57) (L s) p : Nat) : Int), y, t)) ∨
    (∃ n : Nat, dep_reader_job.f s p 0 0 = some ((n : Int), s, ((run (inr 48 57) (L s) p : Nat) : Int), 0, 0) ∧ n < 1000000 ∧ 0 < n ∧ ((L s).drop p).takeWhile (inr 48 57) = Go.Lib.decDigits n) := by
  have ht := take_f s 48 57 p (s.size + 2) 0 0 (by omega) (by omega) hp
  have ht' : dep_reader_take.f (s.size + 2) s p 0 0 48 57 = _ := ht
  have hq := run_le (inr 48 57) (L s) p (by rw [L_length]; exact hp)
  have hpq := le_run (inr 48 57) (L s) p
  rw [L_length] at hq
  have hLd : L (s.extract p (run (inr 48 57) (L s) p)) = ((L s).drop p).takeWhile (inr 48 57) := by rw [extract_L, run_text]
  have hdig : ∀ c ∈ ((L s).drop p).takeWhile (inr 48 57), isDig c = true := run_all (inr 48 57) (L s) p
  generalize hqq : run (inr 48 57) (L s) p = q at *
  generalize hD : s.extract p q = d at *
  generalize hU : ((L s).drop p).takeWhile (inr 48 57) = u at *
  have hul : u.length = d.size := by rw [← hLd, L_length]
  have hdsz : d.size ≤ s.size := by rw [← hD, ByteArray.size_extract]; omega
  unfold dep_reader_job.f
  rw [if_pos (by omega), ht']
  simp only [Option.bind_some]
  rw [if_pos (by omega)]
  unfold jobWrong
  by_cases h0 : d.size = 0
  · left
    obtain ⟨y, hy, hw⟩ := wrong_f s q p
    rw [if_pos h0, hw]
    exact ⟨_, y, _, hy, rfl⟩
  · rw [if_neg h0]
    by_cases h48 : bt d 0 = 48
    · left
      obtain ⟨y, hy, hw⟩ := wrong_f s q p
      rw [if_pos h48, hw]
      exact ⟨_, y, _, hy, rfl⟩
    · rw [if_neg h48]
      by_cases h6 : 6 < d.size
      · left
        obtain ⟨y, hy, hw⟩ := wrong_f s q (wrap64 (p + 6))
        rw [if_pos h6, hw]
        exact ⟨_, y, _, hy, rfl⟩
      · right
        rw [if_neg h6]
        have hne : u ≠ [] := by intro e; rw [e] at hul; simp at hul; omega
        have hA := atoi_digits u hdig hne (by omega)
        have hv : atoiVal d.data.toList = (valD u : Int) := by
          unfold atoiVal
          rw [show d.data.toList = u from hLd, hA]
        have hhead : ∀ c, u.head? = some c → c.toNat ≠ 48 := by
          intro c hc e
          apply h48
          have := bt_L d 0 (by omega)
          rw [show ((0 : Nat) : Int) = 0 from rfl] at this
          rw [this]
          have h0' : (L d)[0]? = some c := by rw [← List.head?_eq_getElem?, hLd]; exact hc
          have hx : (L d)[0]'(by rw [L_length]; omega) = c := (List.getElem?_eq_some_iff.1 h0').2
          rw [hx, e]; rfl
        have hval := valD_lt u hdig
        have hp6 : 10 ^ u.length ≤ 10 ^ 6 := Nat.pow_le_pow_right (by decide) (by omega)
        have hdec := dec_val u hdig hne (.inr hhead)
        refine ⟨valD u, ?_, by omega, ?_, hdec.symm⟩
        · rw [hv]; rfl
        · rcases Nat.eq_zero_or_pos (valD u) with h | h
          · exfalso
            rw [h] at hdec
            have : u = [48] := by rw [← hdec, Go.Lib.decDigits, dif_pos (by decide)]; rfl
            exact hhead 48 (by rw [this]; rfl) rfl
          · exact h

/-- The words of the kinds. -/
def wordL : Nat → List UInt8
  | 1 => [97, 102, 116, 101, 114]
  | 2 => [97, 102, 116, 101, 114, 111, 107]
  | 3 => [97, 102, 116, 101, 114, 110, 111, 116, 111, 107]
  | 4 => [97, 102, 116, 101, 114, 97, 110, 121]
  | 5 => [115, 105, 110, 103, 108, 101, 116, 111, 110]
  | _ => [63]
theorem word_f (k : Nat) (h1 : 1 ≤ k) (h5 : k ≤ 5) : ∃ w, dep_word.f k = some w ∧ L w = wordL k := by
  have : k = 1 ∨ k = 2 ∨ k = 3 ∨ k = 4 ∨ k = 5 := by omega
  rcases this with rfl | rfl | rfl | rfl | rfl <;> exact ⟨_, rfl, rfl⟩
def kindL (w : List UInt8) : Nat := if w = wordL 5 then 5 else if w = wordL 4 then 4 else if w = wordL 3 then 3 else if w = wordL 2 then 2 else if w = wordL 1 then 1 else 0
theorem kindL_word {w : List UInt8} (h : kindL w ≠ 0) : w = wordL (kindL w) ∧ 1 ≤ kindL w ∧ kindL w ≤ 5 := by
  unfold kindL at h ⊢
  repeat' split at h
  all_goals (first | exact absurd rfl h | skip)
  all_goals simp_all

theorem item_step (k i : Nat) (x3 : Int) (x4 s : ByteArray) (p y t : Int) (kd : Nat) (h1 : 1 ≤ i) (h5 : i ≤ 5) :
    dep_reader_item.l0 (k + 1) x3 x4 i s p y t kd = dep_reader_item.l0 k x3 x4 ((i + 1 : Nat) : Int) s p y t ((if L x4 = wordL i then i else kd : Nat) : Int) := by
  obtain ⟨w, hw, hl⟩ := word_f i h1 h5
  simp only [dep_reader_item.l0]
  rw [if_pos (by omega), hw]
  simp only [Option.bind_some]
  rw [toList_L, toList_L, hl, wrap_nat (by omega)]
  by_cases e : L x4 = wordL i
  · rw [if_pos e.symm, if_pos e]
  · rw [if_neg (fun h => e h.symm), if_neg e]
theorem item_kind (k : Nat) (x3 : Int) (x4 s : ByteArray) (p y t : Int) :
    dep_reader_item.l0 (k + 5) x3 x4 1 s p y t 0 = dep_reader_item.l0 k x3 x4 6 s p y t (kindL (L x4) : Nat) := by
  have e1 := item_step (k + 4) 1 x3 x4 s p y t 0 (by decide) (by decide)
  rw [show ((0 : Nat) : Int) = 0 from rfl, show ((1 : Nat) : Int) = 1 from rfl] at e1
  rw [e1, item_step (k + 3) 2 x3 x4 s p y t _ (by decide) (by decide), item_step (k + 2) 3 x3 x4 s p y t _ (by decide) (by decide), item_step (k + 1) 4 x3 x4 s p y t _ (by decide) (by decide), item_step k 5 x3 x4 s p y t _ (by decide) (by decide)]
  rfl

def jobsL (m : List Nat) : List UInt8 := m.flatMap fun n => 58 :: Go.Lib.decDigits n

theorem l1_fault (k : Nat) (x3 : Int) (s : ByteArray) (p y t kd : Int) (js : List Int) (h : y ≠ 0) : dep_reader_item.l1 (k + 2) x3 s p y t kd js = some (kd, js, s, p, y, t) := by
  simp only [dep_reader_item.l1, dep_reader_well.f, Option.bind_some]
  rw [if_neg (by simp [h])]
  simp [dep_reader_item.j3]

theorem l1_good (s : ByteArray) (hs : s.size ≤ 100000) (x3 kd : Int) : ∀ (d : Nat) (js : List Int) (p k : Nat), 32 - js.length = d → js.length ≤ 32 → 2 * d + 4 ≤ k → p ≤ s.size →
    (∃ a c y t, y ≠ 0 ∧ dep_reader_item.l1 k x3 s p 0 0 kd js = some (kd, a, s, c, y, t)) ∨
    (∃ (q : Nat) (m : List Nat), dep_reader_item.l1 k x3 s p 0 0 kd js = some (kd, js ++ m.map Int.ofNat, s, (q : Int), 0, 0) ∧ p ≤ q ∧ q ≤ s.size ∧ (L s).take q = (L s).take p ++ jobsL m ∧ (js ++ m.map Int.ofNat).length ≤ 32 ∧ ∀ n ∈ m, n < 1000000) := by
  intro d
  induction d with
  | zero =>
    intro js p k hd hj hk hp
    obtain ⟨k, rfl⟩ : ∃ m, k = m + 2 := ⟨k - 2, by omega⟩
    simp only [dep_reader_item.l1, dep_reader_well.f, Option.bind_some]
    rw [if_pos (by rfl), next_f s p 0 0 hp]
    simp only [Option.bind_some, dep_reader_item.j3]
    by_cases hc : nx s p = 58
    · left
      rw [if_pos (by simp [hc]), if_pos (by omega)]
      exact ⟨_, _, 5, _, by decide, rfl⟩
    · right
      rw [if_neg (by simp; omega)]
      exact ⟨p, [], by simp, Nat.le_refl _, hp, by simp [jobsL], by simpa using hj, by simp⟩
  | succ d ih =>
    intro js p k hd hj hk hp
    obtain ⟨k, rfl⟩ : ∃ m, k = m + 2 := ⟨k - 2, by omega⟩
    simp only [dep_reader_item.l1, dep_reader_well.f, Option.bind_some]
    rw [if_pos (by rfl), next_f s p 0 0 hp]
    simp only [Option.bind_some, dep_reader_item.j3]
    by_cases hc : nx s p = 58
    · rw [if_pos (by simp [hc])]
      by_cases hlt : p < s.size
      · rw [nx_lt s p hlt] at hc
        have hl : p < (L s).length := by rw [L_length]; exact hlt
        have hcol : (L s)[p] = 58 := by
          exact UInt8.toNat_inj.1 hc
        rw [if_neg (by omega), wrap_nat (by omega)]
        rcases job_f s (p + 1) hs (by omega) with ⟨v, y, t, hy, hjb⟩ | ⟨n, hjb, hn, hn0, hdig⟩
        · left
          rw [hjb]
          simp only [Option.bind_some]
          rw [if_pos (by omega)]
          obtain ⟨k, rfl⟩ : ∃ m, k = m + 2 := ⟨k - 2, by omega⟩
          rw [l1_fault k x3 s _ y t kd _ hy]
          exact ⟨_, _, y, t, hy, rfl⟩
        · rw [hjb]
          simp only [Option.bind_some]
          rw [if_pos (by omega)]
          have hq := run_le (inr 48 57) (L s) (p + 1) (by rw [L_length]; omega)
          have hpq := le_run (inr 48 57) (L s) (p + 1)
          rw [L_length] at hq
          have htx := take_split (L s) (p + 1) _ hpq
          rw [run_text, hdig, List.take_succ_eq_append_getElem hl, hcol] at htx
          rcases ih (js ++ [(n : Int)]) (run (inr 48 57) (L s) (p + 1)) k (by simp; omega) (by simp; omega) (by omega) hq with ⟨a, c, y, t, hy, e⟩ | ⟨q, m, e, h1, h2, h3, h4, h5⟩
          · left
            exact ⟨a, c, y, t, hy, e⟩
          · right
            refine ⟨q, n :: m, ?_, by omega, h2, ?_, ?_, ?_⟩
            · rw [e]; simp
            · rw [h3, htx]; simp [jobsL]
            · simpa using h4
            · intro x hx
              rcases List.mem_cons.1 hx with rfl | hx
              · exact hn
              · exact h5 x hx
      · rw [nx_end s p hlt] at hc
        cases hc
    · right
      rw [if_neg (by simp; omega)]
      exact ⟨p, [], by simp, Nat.le_refl _, hp, by simp [jobsL], by simpa using hj, by simp⟩

/-- An item's text. -/
def itemL (kd : Nat) (m : List Nat) : List UInt8 := wordL kd ++ if kd < 5 then jobsL m else []

theorem item_f (s : ByteArray) (hs : s.size ≤ 100000) (p k : Nat) (hk : s.size + 200 ≤ k) (hp : p ≤ s.size) :
    (∃ kd a c y t, y ≠ 0 ∧ dep_reader_item.f k s p 0 0 = some (kd, a, s, c, y, t)) ∨
    (∃ (kd q : Nat) (m : List Nat), dep_reader_item.f k s p 0 0 = some ((kd : Int), m.map Int.ofNat, s, (q : Int), 0, 0) ∧ 1 ≤ kd ∧ kd ≤ 5 ∧ (kd = 5 → m = []) ∧ m.length ≤ 32 ∧ (∀ n ∈ m, n < 1000000) ∧ p ≤ q ∧ q ≤ s.size ∧ (L s).take q = (L s).take p ++ itemL kd m) := by
  have ht := take_f s 97 122 p k 0 0 (by omega) (by omega) hp
  have ht' : dep_reader_take.f k s p 0 0 97 122 = _ := ht
  have hq := run_le (inr 97 122) (L s) p (by rw [L_length]; exact hp)
  have hpq := le_run (inr 97 122) (L s) p
  rw [L_length] at hq
  have htx := take_split (L s) p _ hpq
  have hLd : L (s.extract p (run (inr 97 122) (L s) p)) = ((L s).drop p).takeWhile (inr 97 122) := by rw [extract_L, run_text]
  rw [run_text] at htx
  generalize hqq : run (inr 97 122) (L s) p = q at *
  generalize hD : s.extract p q = d at *
  generalize hU : ((L s).drop p).takeWhile (inr 97 122) = u at *
  unfold dep_reader_item.f
  rw [ht']
  simp only [Option.bind_some]
  obtain ⟨k, rfl⟩ : ∃ m, k = (m + 1) + 5 := ⟨k - 6, by omega⟩
  rw [item_kind, hLd]
  simp only [dep_reader_item.l0]
  rw [if_neg (by omega)]
  by_cases h0 : kindL u = 0
  · left
    obtain ⟨y, hy, hw⟩ := wrong_f s q p
    rw [if_pos (by omega), hw]
    exact ⟨_, _, _, y, _, hy, rfl⟩
  · rw [if_neg (by omega)]
    obtain ⟨hw, hk1, hk5⟩ := kindL_word h0
    by_cases h5 : kindL u = 5
    · right
      rw [if_pos (by omega)]
      refine ⟨5, q, [], by rw [h5]; rfl, by omega, by omega, fun _ => rfl, by simp, by simp, hpq, hq, ?_⟩
      rw [htx, hw, h5]; simp [itemL]
    · rw [if_neg (by omega), next_f s q 0 0 hq]
      simp only [Option.bind_some]
      by_cases hc : nx s q = 58
      · rw [if_pos (by omega)]
        obtain ⟨k, rfl⟩ : ∃ m, k = m + 1 := ⟨k - 1, by omega⟩
        simp only [dep_reader_item.j1]
        rcases l1_good s hs p (kindL u : Nat) 32 [] q k rfl (by simp) (by omega) hq with ⟨a, c, y, t, hy, e⟩ | ⟨q2, m, e, h1, h2, h3, h4, h6⟩
        · left
          exact ⟨_, a, c, y, t, hy, e⟩
        · right
          refine ⟨kindL u, q2, m, by simpa using e, hk1, hk5, fun h => absurd h h5, by simpa using h4, h6, by omega, h2, ?_⟩
          rw [h3, htx, List.append_assoc]
          congr 1
          unfold itemL
          rw [if_pos (by omega), ← hw]
      · left
        rw [if_neg (by omega)]
        obtain ⟨y, hy, hw2⟩ := wrong_f s q q
        rw [hw2]
        simp only [Option.bind_some]
        obtain ⟨k, rfl⟩ : ∃ m, k = m + 3 := ⟨k - 3, by omega⟩
        simp only [dep_reader_item.j1]
        rw [l1_fault k _ s _ y _ _ _ hy]
        exact ⟨_, _, _, y, _, hy, rfl⟩
end Go.Proofs.YtknbnnpggdegmaaDoor.Tx
