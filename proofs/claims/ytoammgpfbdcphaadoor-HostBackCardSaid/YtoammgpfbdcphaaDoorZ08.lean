/- Part 8 of the proof of HostBackCardSaid. -/
import Derived.Test.YtoammgpfbdcphaaDoorZ06
import Derived.Test.YtoammgpfbdcphaaDoorZ07
import Derived.Test.YtoammgpfbdcphaaDoorZ03
section
namespace Go.Proofs.YtoammgpfbdcphaaDoor.Hx
open Go.RowKit Go.Proofs.YtoammgpfbdcphaaDoor.Lib Go.Proofs.YtoammgpfbdcphaaDoor.PH Go.Proofs.YtoammgpfbdcphaaDoor.Txt Go.Proofs.YtoammgpfbdcphaaDoor.Num Go.Proofs.YtoammgpfbdcphaaDoor.Hn Go.Proofs.YtoammgpfbdcphaaDoorW.PrintWords Go.Proofs.YtoammgpfbdcphaaDoorW.PrintLast Go.Proofs.YtoammgpfbdcphaaDoorW.PrintMore
set_option linter.unusedVariables false
set_option linter.unusedSimpArgs false
def mkB (l : List UInt8) : ByteArray := ⟨l.toArray⟩
theorem L_mkB (l : List UInt8) : L (mkB l) = l := L_mk l
theorem mkB_size (l : List UInt8) : (mkB l).size = l.length := by rw [← L_length, L_mkB]
theorem mkB_L (s : ByteArray) : mkB (L s) = s := L_inj (L_mkB _)
def cntS (x : Sp) : Nat := x.2.1 + 1 - x.1
def namesS (pre : List UInt8) (x : Sp) : List ByteArray := (List.range (cntS x)).map fun i => mkB (pre ++ padL x.2.2 (x.1 + i))
def sumS (ts : List Sp) : Nat := (ts.map cntS).sum
theorem repeat_48 (n : Nat) : Go.Lib.repeatL [48] n = List.replicate n 48 := by
  induction n with
  | zero => rfl
  | succ n ih => show [48] ++ Go.Lib.repeatL [48] n = _; rw [ih, List.replicate_succ]; rfl
theorem text_f (f t : Int) (w n : Nat) (hw : w ≤ 6) (hn : n < 1000000) : host_span_text.f f t (w : Int) (n : Int) = some (mkB (padL w n)) := by
  have hd := dec_len 5 n (by omega)
  have hp := dec_pos n
  have hi : Go.Lib.itoa (n : Int) = Go.Lib.decDigits n := by unfold Go.Lib.itoa; rw [if_neg (by omega)]; rfl
  unfold host_span_text.f strconv_Itoa.f
  rw [if_pos (by omega), hi]
  simp only [Option.bind_some]
  have hz : (⟨(Go.Lib.decDigits n).toArray⟩ : ByteArray).size = (Go.Lib.decDigits n).length := mkB_size _
  have hm : mx 0 (wrap64 ((w : Int) - ((⟨(Go.Lib.decDigits n).toArray⟩ : ByteArray).size : Int))) = ((w - (Go.Lib.decDigits n).length : Nat) : Int) := by
    rw [hz]; unfold mx wrap64; split <;> omega
  unfold strings_Repeat.f
  rw [hm, if_pos ⟨by omega, by omega, by decide⟩]
  simp only [Option.bind_some]
  have hr : (⟨(Go.Lib.repeatL (⟨#[48]⟩ : ByteArray).data.toList (((w - (Go.Lib.decDigits n).length : Nat) : Int)).toNat).toArray⟩ : ByteArray) = mkB (List.replicate (w - (Go.Lib.decDigits n).length) 48) := by
    rw [Int.toNat_natCast]
    show (⟨(Go.Lib.repeatL [48] _).toArray⟩ : ByteArray) = _
    rw [repeat_48]; rfl
  rw [hr, hz, mkB_size, List.length_replicate, if_pos (by omega)]
  exact congrArg some (L_inj (by rw [L_append, L_mkB, L_mkB]; exact congrArg (_ ++ ·) (L_mkB (Go.Lib.decDigits n))))
abbrev ER := List ByteArray × Int × Int
def stage (k : Nat) (x0 : ByteArray) (out : List ByteArray) (s : ByteArray) (q : Int) : Option ER :=
  (host_reader_next.f s q 0 0 44).bind fun bt201 => (if bt201.1 = true then (host_Expand.l0 k x0 out bt201.2.1 bt201.2.2.1 bt201.2.2.2.1 bt201.2.2.2.2) else (some (out, 0, 0)))
theorem stage_comma (s x0 : ByteArray) (hs : s.size ≤ 9000000000) (out : List ByteArray) (q : Nat) (h : (L s)[q]? = some 44) (r : ER) (hr : Ev (fun k => host_Expand.l0 k x0 out s ((q + 1 : Nat) : Int) 0 0) r) :
    Ev (fun k => stage k x0 out s (q : Int)) r := by
  obtain ⟨K, hK⟩ := hr
  have hq := (List.getElem?_eq_some_iff.1 h).1
  rw [L_length] at hq
  refine ⟨K, fun k hk => ?_⟩
  have e := next_f s q 0 0 44 (by omega)
  rw [if_pos h, wrap_nat (by omega), show ((44 : UInt8).toNat : Int) = 44 from rfl] at e
  simp only [stage, e, Option.bind_some]
  exact hK k hk
theorem stage_end (s x0 : ByteArray) (out : List ByteArray) (q : Nat) (hq : q ≤ s.size) (h : (L s)[q]? ≠ some 44) : Ev (fun k => stage k x0 out s (q : Int)) (out, 0, 0) := by
  refine ⟨0, fun k hk => ?_⟩
  have e := next_f s q 0 0 44 hq
  rw [if_neg h, show ((44 : UInt8).toNat : Int) = 44 from rfl] at e
  simp only [stage, e, Option.bind_some]
  rw [if_neg (by decide)]
theorem rdT (ts : List Sp) (i : Nat) (h : i < ts.length) : rd_T54 (ts.map mkS) (i : Int) = mkS ts[i] := by
  unfold rd_T54
  rw [Int.toNat_natCast, List.getD_eq_getElem?_getD, List.getElem?_map, List.getElem?_eq_getElem h]; rfl
theorem l3_ev (s x0 : ByteArray) (pre : ByteArray) (hp : pre.size ≤ 9000000000) (l : List S54) (ln i : Int) (q : Int) (x : Sp) (hg : goodS x) (r : ER) (out : List ByteArray) :
    ∀ (d j : Nat), cntS x - j = d → j ≤ cntS x → out.length + (cntS x - j) ≤ 1000 →
      Ev (fun k => host_Expand.l2 k x0 (out ++ ((List.range' j (cntS x - j)).map fun i => mkB (L pre ++ padL x.2.2 (x.1 + i)))) pre l ln (wrap64 (i + 1)) s q 0 0) r →
      Ev (fun k => host_Expand.l3 k x0 out pre ((x.1 + j : Nat) : Int) l ln i s q 0 0 (mkS x).f0 (mkS x).f1 (mkS x).f2) r := by
  obtain ⟨h1, h2, h3⟩ := hg
  intro d
  induction d generalizing out with
  | zero =>
    intro j hd hj ho hr
    rw [show cntS x - j = 0 from hd] at hr
    simp only [List.range'_zero, List.map_nil, List.append_nil] at hr
    obtain ⟨K, hK⟩ := hr
    dsimp only at hK
    refine Ev.shift ⟨K, fun k hk => ?_⟩
    simp only [host_Expand.l3]
    rw [if_neg (by show ¬ _ ≤ (x.2.1 : Int); unfold cntS at *; omega)]
    exact hK k hk
  | succ d ih =>
    intro j hd hj ho hr
    have hlt : x.1 + j ≤ x.2.1 := by unfold cntS at *; omega
    rw [show cntS x - j = (cntS x - (j + 1)) + 1 by omega, List.range'_succ, List.map_cons] at hr
    have hr2 := ih (out ++ [mkB (L pre ++ padL x.2.2 (x.1 + j))]) (j + 1) (by omega) (by omega) (by simp; omega) (by rw [List.append_assoc]; exact hr)
    obtain ⟨K, hK⟩ := hr2
    dsimp only at hK
    refine Ev.shift ⟨K, fun k hk => ?_⟩
    simp only [host_Expand.l3]
    have hpl := pad_le6 x.2.2 (x.1 + j) h3 (by omega)
    have ht : host_span_text.f (mkS x).f0 (mkS x).f1 (mkS x).f2 ((x.1 + j : Nat) : Int) = some (mkB (padL x.2.2 (x.1 + j))) := text_f _ _ _ _ h3 (by omega)
    rw [if_pos (by show _ ≤ (x.2.1 : Int); omega), ht]
    simp only [Option.bind_some]
    rw [mkB_size, if_pos (by omega), if_pos (by omega), wrap_nat (by omega)]
    have e : pre ++ mkB (padL x.2.2 (x.1 + j)) = mkB (L pre ++ padL x.2.2 (x.1 + j)) := L_inj (by rw [L_append, L_mkB, L_mkB])
    rw [e]
    exact hK k hk
theorem cntS_pos (x : Sp) (h : goodS x) : 1 ≤ cntS x ∧ cntS x ≤ 1000000 := by obtain ⟨h1, h2, h3⟩ := h; unfold cntS; omega
theorem sum_drop (ts : List Sp) (i : Nat) (h : i < ts.length) : sumS (ts.drop i) = cntS ts[i] + sumS (ts.drop (i + 1)) := by
  unfold sumS; rw [List.drop_eq_getElem_cons h, List.map_cons, List.sum_cons]
theorem l2_ev (s x0 : ByteArray) (pre : ByteArray) (hp : pre.size ≤ 9000000000) (ts : List Sp) (hg : ∀ x ∈ ts, goodS x) (htl : ts.length ≤ 9000000000) (q : Int) (r : ER) :
    ∀ (d i : Nat) (out : List ByteArray), ts.length - i = d → i ≤ ts.length → out.length + sumS (ts.drop i) ≤ 1000 →
      Ev (fun k => stage k x0 (out ++ (ts.drop i).flatMap (namesS (L pre))) s q) r →
      Ev (fun k => host_Expand.l2 k x0 out pre (ts.map mkS) (ts.length : Int) (i : Int) s q 0 0) r := by
  intro d
  induction d with
  | zero =>
    intro i out hd hi ho hr
    rw [List.drop_eq_nil_of_le (by omega), List.flatMap_nil, List.append_nil] at hr
    obtain ⟨K, hK⟩ := hr
    dsimp only at hK
    refine Ev.shift ⟨K, fun k hk => ?_⟩
    simp only [host_Expand.l2]
    rw [if_neg (by omega)]
    exact hK k hk
  | succ d ih =>
    intro i out hd hi ho hr
    have hlt : i < ts.length := by omega
    have hgx := hg ts[i] (List.getElem_mem hlt)
    rw [sum_drop ts i hlt] at ho
    have hnl : (namesS (L pre) ts[i]).length = cntS ts[i] := by unfold namesS; simp
    have hr2 := ih (i + 1) (out ++ namesS (L pre) ts[i]) (by omega) (by omega) (by rw [List.length_append, hnl]; omega) (by
      rw [List.drop_eq_getElem_cons hlt, List.flatMap_cons] at hr
      rw [List.append_assoc]; exact hr)
    have hr3 := l3_ev s x0 pre hp (ts.map mkS) (ts.length : Int) (i : Int) q ts[i] hgx r out _ 0 rfl (by omega) (by omega) (by
      rw [wrap_nat (by omega), Nat.sub_zero, ← List.range_eq_range']; exact hr2)
    obtain ⟨K, hK⟩ := hr3
    dsimp only at hK
    refine Ev.shift ⟨K, fun k hk => ?_⟩
    simp only [host_Expand.l2]
    rw [if_pos (by omega), if_pos (by omega), if_pos (by simp; omega), rdT ts i hlt]
    exact hK k hk
theorem l1_ev (s x0 : ByteArray) (out : List ByteArray) (fr : Int) (pre : ByteArray) (ts : List Sp) (hg : ∀ x ∈ ts, goodS x) (htl : ts.length ≤ 9000000000) (plain : Bool) (q : Int) (r : ER) :
    ∀ (d i acc : Nat), ts.length - i = d → i ≤ ts.length → acc ≤ i * 1000000 →
      Ev (fun k => host_Expand.j6 k x0 out fr pre (ts.map mkS) plain (if plain = true then 1 else ((acc + sumS (ts.drop i) : Nat) : Int)) s q 0 0) r →
      Ev (fun k => host_Expand.l1 k x0 out fr pre (ts.map mkS) plain (acc : Int) (ts.map mkS) (ts.length : Int) (i : Int) s q 0 0) r := by
  intro d
  induction d with
  | zero =>
    intro i acc hd hi ha hr
    rw [List.drop_eq_nil_of_le (by omega)] at hr
    obtain ⟨K, hK⟩ := hr
    dsimp only at hK
    refine Ev.shift ⟨K, fun k hk => ?_⟩
    simp only [host_Expand.l1]
    rw [if_neg (by omega)]
    have h2 := hK k hk
    cases plain with
    | true => rw [if_pos rfl] at h2; rw [if_pos rfl]; exact h2
    | false => rw [if_neg (by decide)] at h2; rw [if_neg (by decide)]; exact h2
  | succ d ih =>
    intro i acc hd hi ha hr
    have hlt : i < ts.length := by omega
    have hgx := hg ts[i] (List.getElem_mem hlt)
    have hc := cntS_pos _ hgx
    obtain ⟨h1, h2, h3⟩ := hgx
    rw [sum_drop ts i hlt, ← Nat.add_assoc] at hr
    obtain ⟨K, hK⟩ := ih (i + 1) (acc + cntS ts[i]) (by omega) (by omega) (by rw [Nat.succ_mul]; omega) hr
    dsimp only at hK
    refine Ev.shift ⟨K, fun k hk => ?_⟩
    simp only [host_Expand.l1]
    rw [if_pos (by omega), if_pos (by omega), if_pos (by simp; omega), rdT ts i hlt, wrap_nat (by omega)]
    have hi6 : i * 1000000 ≤ 9000000000 * 1000000 := Nat.mul_le_mul_right _ (by omega)
    have e : wrap64 ((acc : Int) + wrap64 (wrap64 ((mkS ts[i]).f1 - (mkS ts[i]).f0) + 1)) = ((acc + cntS ts[i] : Nat) : Int) := by
      show wrap64 ((acc : Int) + wrap64 (wrap64 ((ts[i].2.1 : Int) - (ts[i].1 : Int)) + 1)) = _
      unfold cntS wrap64; omega
    rw [e]
    exact hK k hk
theorem j6_plain (s x0 : ByteArray) (out : List ByteArray) (fr : Int) (pre : ByteArray) (q : Int) (h : out.length + 1 ≤ 256) (r : ER) (hr : Ev (fun k => stage k x0 (out ++ [pre]) s q) r) :
    Ev (fun k => host_Expand.j6 k x0 out fr pre [] true 1 s q 0 0) r := by
  obtain ⟨K, hK⟩ := hr
  dsimp only at hK
  refine Ev.shift (Ev.shift (Ev.shift ⟨K, fun k hk => ?_⟩))
  simp only [host_Expand.j6]
  have e : wrap64 (256 - (out.length : Int)) = ((256 - out.length : Nat) : Int) := by unfold wrap64; omega
  rw [e, if_neg (by omega), if_pos (by first | rfl | trivial), if_pos (by omega)]
  simp only [host_Expand.j7, host_Expand.l2]
  rw [if_neg (by simp)]
  exact hK k hk
theorem j6_spans (s x0 : ByteArray) (out : List ByteArray) (fr : Int) (pre : ByteArray) (hp : pre.size ≤ 9000000000) (ts : List Sp) (hg : ∀ x ∈ ts, goodS x) (htl : ts.length ≤ 9000000000) (q : Int) (h : out.length + sumS ts ≤ 256) (r : ER)
    (hr : Ev (fun k => stage k x0 (out ++ ts.flatMap (namesS (L pre))) s q) r) : Ev (fun k => host_Expand.j6 k x0 out fr pre (ts.map mkS) false (sumS ts : Int) s q 0 0) r := by
  obtain ⟨K, hK⟩ := l2_ev s x0 pre hp ts hg htl q r ts.length 0 out rfl (by omega) (by rw [List.drop_zero]; omega) (by rw [List.drop_zero]; exact hr)
  dsimp only at hK
  refine Ev.shift (Ev.shift ⟨K, fun k hk => ?_⟩)
  simp only [host_Expand.j6]
  have e : wrap64 (256 - (out.length : Int)) = ((256 - out.length : Nat) : Int) := by unfold wrap64; omega
  rw [e, if_neg (by omega), if_neg (by decide)]
  simp only [host_Expand.j7, List.length_map]
  exact hK k hk
theorem j2_on (s x0 : ByteArray) (out : List ByteArray) (fr : Int) (pre : ByteArray) (l : List S54) (plain : Bool) (q : Nat) (hq : q ≤ s.size) (hc : q = s.size ∨ (L s)[q]? = some 44) (r : ER)
    (hr : Ev (fun k => host_Expand.l1 k x0 out fr pre l plain 0 l (l.length : Int) 0 s (q : Int) 0 0) r) (hx : x0 = s) : Ev (fun k => host_Expand.j2 k x0 out fr pre l plain s (q : Int) 0 0) r := by
  subst hx
  obtain ⟨K, hK⟩ := hr
  dsimp only at hK
  refine Ev.shift (Ev.shift (Ev.shift ⟨K, fun k hk => ?_⟩))
  have h4 : host_Expand.j4 (k + 1) x0 out fr pre l plain x0 (q : Int) 0 0 = some r := by
    simp only [host_Expand.j4]
    rw [if_neg (by decide)]
    exact hK k hk
  have h3 : host_Expand.j3 (k + 2) x0 out fr pre l plain false x0 (q : Int) 0 0 = some r := by
    simp only [host_Expand.j3]
    rw [if_neg (by decide)]
    exact h4
  simp only [host_Expand.j2]
  by_cases hlt : q < x0.size
  · have hl : q < (L x0).length := by rw [L_length]; exact hlt
    have h44 : (L x0)[q]? = some 44 := by rcases hc with h | h; omega; exact h
    rw [List.getElem?_eq_getElem hl] at h44
    injection h44 with h44
    rw [if_pos (by omega), if_pos (by omega), bt_L x0 q hlt, h44]
    exact h3
  · rw [if_neg (by omega)]
    exact h3
def pEnd (l : List UInt8) (p : Nat) : Nat := run bareB l p
theorem pEnd_le (s : ByteArray) (p : Nat) (hp : p ≤ s.size) : p ≤ pEnd (L s) p ∧ pEnd (L s) p ≤ s.size := by
  have h2 := run_le bareB (L s) p (by rw [L_length]; exact hp)
  rw [L_length] at h2
  exact ⟨le_run _ _ _, h2⟩
def pTxt (s : ByteArray) (p : Nat) : ByteArray := s.extract p (pEnd (L s) p)
theorem pTxt_L (s : ByteArray) (p : Nat) : L (pTxt s p) = ((L s).drop p).takeWhile bareB := by
  unfold pTxt pEnd
  rw [extract_L, run_text]
theorem l0_plain (s : ByteArray) (hs : s.size ≤ 9000000000) (out : List ByteArray) (p : Nat) (hp : p ≤ s.size) (h : pEnd (L s) p ≠ p) (hc : (L s)[pEnd (L s) p]? ≠ some 91) (r : ER)
    (hr : Ev (fun k => host_Expand.j2 k s out (p : Int) (pTxt s p) [] true s (pEnd (L s) p : Int) 0 0) r) : Ev (fun k => host_Expand.l0 k s out s (p : Int) 0 0) r := by
  obtain ⟨K, hK⟩ := take_bare s hs p hp
  dsimp only at hK
  obtain ⟨K1, hK1⟩ := hr
  have hle := pEnd_le s p hp
  have e := next_f s (pEnd (L s) p) 0 0 91 hle.2
  rw [show ((91 : UInt8).toNat : Int) = 91 from rfl, if_neg hc] at e
  refine Ev.shift ⟨K + K1 + 1, fun k hk => ?_⟩
  simp only [host_Expand.l0]
  rw [hK k (by omega), show run bareB (L s) p = pEnd (L s) p from rfl, takeR_ok _ _ _ h]
  simp only [Option.bind_some]
  rw [e]
  simp only [Option.bind_some]
  rw [if_neg (by decide)]
  obtain ⟨m, rfl⟩ : ∃ m, k = m + 1 := ⟨k - 1, by omega⟩
  simp only [host_Expand.j1]
  rw [if_neg (by decide)]
  exact hK1 m (by omega)
theorem l0_ranges (s : ByteArray) (hs : s.size ≤ 9000000000) (out : List ByteArray) (p : Nat) (hp : p ≤ s.size) (h : pEnd (L s) p ≠ p) (hc : (L s)[pEnd (L s) p]? = some 91) (l : List S54) (q y z : Int)
    (hl : Ev (fun k => host_reader_spans.l0 k [] s ((pEnd (L s) p + 1 : Nat) : Int) 0 0) (l, s, q, y, z)) (r : ER)
    (hr : Ev (fun k => host_Expand.j2 k s out (p : Int) (pTxt s p) l false s q y z) r) : Ev (fun k => host_Expand.l0 k s out s (p : Int) 0 0) r := by
  obtain ⟨K, hK⟩ := take_bare s hs p hp
  dsimp only at hK
  obtain ⟨K1, hK1⟩ := hr
  obtain ⟨K2, hK2⟩ := hl
  dsimp only at hK2
  have hle := pEnd_le s p hp
  have e := next_f s (pEnd (L s) p) 0 0 91 hle.2
  rw [show ((91 : UInt8).toNat : Int) = 91 from rfl, if_pos hc, wrap_nat (by omega)] at e
  refine Ev.shift ⟨K + K1 + K2 + 1, fun k hk => ?_⟩
  simp only [host_Expand.l0]
  rw [hK k (by omega), show run bareB (L s) p = pEnd (L s) p from rfl, takeR_ok _ _ _ h]
  simp only [Option.bind_some]
  rw [e]
  simp only [Option.bind_some]
  rw [if_pos (by first | rfl | trivial)]
  obtain ⟨m, rfl⟩ : ∃ m, k = m + 1 := ⟨k - 1, by omega⟩
  simp only [host_Expand.j1]
  rw [if_pos (by first | rfl | trivial)]
  simp only [host_reader_spans.f]
  rw [hK2 m (by omega)]
  simp only [Option.bind_some]
  exact hK1 m (by omega)
end Go.Proofs.YtoammgpfbdcphaaDoor.Hx
end
section
namespace Go.Proofs.YtoammgpfbdcphaaDoor.Hx
open Go.RowKit Go.Proofs.YtoammgpfbdcphaaDoor.Lib Go.Proofs.YtoammgpfbdcphaaDoor.PH Go.Proofs.YtoammgpfbdcphaaDoor.Txt Go.Proofs.YtoammgpfbdcphaaDoor.Num Go.Proofs.YtoammgpfbdcphaaDoor.Hn Go.Proofs.YtoammgpfbdcphaaDoorW.PrintWords Go.Proofs.YtoammgpfbdcphaaDoorW.PrintLast Go.Proofs.YtoammgpfbdcphaaDoorW.PrintMore
set_option linter.unusedVariables false
set_option linter.unusedSimpArgs false
def Bare (t : List UInt8) : Prop := ∀ c ∈ t, bareB c = true
theorem tw_split (f : UInt8 → Bool) (t rest : List UInt8) (ht : ∀ c ∈ t, f c = true) (hr : ∀ c, rest.head? = some c → f c = false) : (t ++ rest).takeWhile f = t := by
  induction t with
  | nil =>
    cases rest with
    | nil => rfl
    | cons c r => rw [List.nil_append, List.takeWhile_cons_of_neg (by rw [hr c rfl]; decide)]
  | cons c t ih => rw [List.cons_append, List.takeWhile_cons_of_pos (ht c (by simp)), ih (fun d hd => ht d (by simp [hd]))]
theorem run_split (f : UInt8 → Bool) (l : List UInt8) (p : Nat) (t rest : List UInt8) (h : l.drop p = t ++ rest) (ht : ∀ c ∈ t, f c = true) (hr : ∀ c, rest.head? = some c → f c = false) : run f l p = p + t.length := by
  unfold run; rw [h, tw_split f t rest ht hr]
theorem get_split (l : List UInt8) (p : Nat) (t rest : List UInt8) (h : l.drop p = t ++ rest) : l[p + t.length]? = rest.head? := by
  rw [← List.getElem?_drop, h, List.getElem?_append_right (by omega), Nat.sub_self, List.head?_eq_getElem?]
theorem drop_split (l : List UInt8) (p : Nat) (t rest : List UInt8) (h : l.drop p = t ++ rest) : l.drop (p + t.length) = rest := by
  rw [← List.drop_drop, h, List.drop_left]
theorem len_split (s : ByteArray) (p : Nat) (t rest : List UInt8) (h : (L s).drop p = t ++ rest) (hp : p ≤ s.size) : p + t.length + rest.length = s.size := by
  have := congrArg List.length h
  rw [List.length_drop, L_length, List.length_append] at this
  omega
theorem dEnd_split (l : List UInt8) (p : Nat) (a rest : List UInt8) (h : l.drop p = a ++ rest) (ha : Digs a) (hl : a.length ≤ 6) (hr : ∀ c, rest.head? = some c → isDig c = false) : dEnd l p = p + a.length ∧ dTxt l p = a := by
  have e : dEnd l p = p + a.length := by unfold dEnd; rw [run_split isDig l p a rest h ha hr]; omega
  refine ⟨e, ?_⟩
  unfold dTxt
  rw [e, h, Nat.add_sub_cancel_left, List.take_left]
theorem part_ranges (s : ByteArray) (hs : s.size ≤ 1000000000) (out : List ByteArray) (p : Nat) (hp : p ≤ s.size) (P a b rest : List UInt8) (hP : P ≠ []) (hb : Bare P) (ha : Digs a) (ha0 : a ≠ []) (ha6 : a.length ≤ 6) (hbD : Digs b) (hb0 : b ≠ []) (hb6 : b.length ≤ 6) (hv : valD a ≤ valD b)
    (h : (L s).drop p = (P ++ 91 :: (a ++ 45 :: (b ++ [93]))) ++ rest) (hr : rest = [] ∨ rest.head? = some 44) (r : ER)
    (hE : Ev (fun k => host_Expand.j6 k s out (p : Int) (mkB P) ([(valD a, valD b, widthOf a)].map mkS) false ((sumS [(valD a, valD b, widthOf a)] : Nat) : Int) s ((p + (P ++ 91 :: (a ++ 45 :: (b ++ [93]))).length : Nat) : Int) 0 0) r) :
    Ev (fun k => host_Expand.l0 k s out s (p : Int) 0 0) r := by
  have hlen := len_split s p _ _ h hp
  have h1 : (L s).drop p = P ++ (91 :: (a ++ 45 :: (b ++ [93])) ++ rest) := by rw [h, List.append_assoc]
  have hpe : pEnd (L s) p = p + P.length := run_split bareB (L s) p P _ h1 hb (fun c hc => by simp at hc; rw [← hc]; exact bare_91)
  have hPl : P.length ≠ 0 := fun h => hP (List.length_eq_zero_iff.1 h)
  have h91 : (L s)[pEnd (L s) p]? = some 91 := by rw [hpe, get_split _ _ _ _ h1]; rfl
  have hpt : pTxt s p = mkB P := L_inj (by rw [pTxt_L, L_mkB, h1]; exact tw_split bareB P _ hb (fun c hc => by simp at hc; rw [← hc]; exact bare_91))
  have h2 : (L s).drop (pEnd (L s) p + 1) = a ++ (45 :: (b ++ [93]) ++ rest) := by
    rw [hpe, ← List.drop_drop, drop_split _ _ _ _ h1]
    simp
  obtain ⟨e1, e2⟩ := dEnd_split (L s) _ a _ h2 ha ha6 (fun c hc => by simp at hc; rw [← hc]; rfl)
  have hal : a.length ≠ 0 := fun h => ha0 (List.length_eq_zero_iff.1 h)
  have hbl : b.length ≠ 0 := fun h => hb0 (List.length_eq_zero_iff.1 h)
  have h45 : (L s)[dEnd (L s) (pEnd (L s) p + 1)]? = some 45 := by rw [e1, get_split _ _ _ _ h2]; rfl
  have h3 : (L s).drop (dEnd (L s) (pEnd (L s) p + 1) + 1) = b ++ ([93] ++ rest) := by
    rw [e1, ← List.drop_drop, drop_split _ _ _ _ h2]
    simp
  obtain ⟨e3, e4⟩ := dEnd_split (L s) _ b _ h3 hbD hb6 (fun c hc => by simp at hc; rw [← hc]; rfl)
  have hspan : spanO (L s) (pEnd (L s) p + 1) = some ((valD a, valD b, widthOf a), dEnd (L s) (dEnd (L s) (pEnd (L s) p + 1) + 1)) := by
    unfold spanO
    rw [if_neg (by omega), if_pos h45, e4, e2, if_neg (by omega)]
  have h93 : (L s)[dEnd (L s) (dEnd (L s) (pEnd (L s) p + 1) + 1)]? = some 93 := by rw [e3, get_split _ _ _ _ h3]; rfl
  have hlt : pEnd (L s) p + 1 ≤ s.size := by
    have := (List.getElem?_eq_some_iff.1 h91).1
    rw [L_length] at this; omega
  have hst := spans_stop s (by omega) (pEnd (L s) p + 1) hlt [] (by simp) _ _ hspan h93
  rw [List.nil_append, List.map_nil] at hst
  have hq : dEnd (L s) (dEnd (L s) (pEnd (L s) p + 1) + 1) + 1 = p + (P ++ 91 :: (a ++ 45 :: (b ++ [93]))).length := by
    rw [e3, e1, hpe]; simp; omega
  rw [hq] at hst
  refine l0_ranges s (by omega) out p hp (by omega) h91 _ _ _ _ hst _ ?_
  rw [hpt]
  refine j2_on s s out (p : Int) (mkB P) _ false _ (by omega) ?_ _ ?_ rfl
  · have e5 := get_split _ _ _ _ h
    rcases hr with rfl | hr
    · left; simp only [List.length_nil] at hlen; omega
    · right; rw [e5, hr]
  · have h5 := l1_ev s s out (p : Int) (mkB P) [(valD a, valD b, widthOf a)] (by
      intro x hx
      rw [List.mem_singleton.1 hx]
      exact ⟨hv, valD_six b hbD hb6, by show widthOf a ≤ 6; have := width_le a; omega⟩) (by simp) false ((p + (P ++ 91 :: (a ++ 45 :: (b ++ [93]))).length : Nat) : Int) r 1 0 0 rfl (by simp) (by omega) (by
      rw [if_neg (by decide), Nat.zero_add, List.drop_zero]; exact hE)
    exact h5
theorem part_plain (s : ByteArray) (hs : s.size ≤ 1000000000) (out : List ByteArray) (ho : out.length + 1 ≤ 256) (p : Nat) (hp : p ≤ s.size) (t rest : List UInt8) (ht : t ≠ []) (hb : Bare t) (h : (L s).drop p = t ++ rest) (hr : rest = [] ∨ rest.head? = some 44) (r : ER)
    (hE : Ev (fun k => stage k s (out ++ [mkB t]) s ((p + t.length : Nat) : Int)) r) : Ev (fun k => host_Expand.l0 k s out s (p : Int) 0 0) r := by
  have hlen := len_split s p _ _ h hp
  have hnb : ∀ c, rest.head? = some c → bareB c = false := by
    intro c hc
    rcases hr with rfl | hr
    · cases hc
    · rw [hr] at hc; injection hc with hc; rw [← hc]; exact bare_44
  have hpe : pEnd (L s) p = p + t.length := run_split bareB (L s) p t _ h hb hnb
  have hPl : t.length ≠ 0 := fun h => ht (List.length_eq_zero_iff.1 h)
  have hpt : pTxt s p = mkB t := L_inj (by rw [pTxt_L, L_mkB, h]; exact tw_split bareB t _ hb hnb)
  have e5 := get_split _ _ _ _ h
  refine l0_plain s (by omega) out p hp (by omega) ?_ _ ?_
  · rw [hpe, e5]
    rcases hr with rfl | hr
    · simp
    · rw [hr]; decide
  · rw [hpt, hpe]
    refine j2_on s s out (p : Int) (mkB t) [] true _ (by omega) ?_ _ ?_ rfl
    · rcases hr with rfl | hr
      · left; simp only [List.length_nil] at hlen; omega
      · right; rw [e5, hr]
    · have h5 := l1_ev s s out (p : Int) (mkB t) [] (by simp) (by simp) true ((p + t.length : Nat) : Int) r 0 0 0 rfl (by simp) (by omega) (by
        rw [if_pos rfl]; exact j6_plain s s out _ _ _ ho r hE)
      exact h5
def Rep (t : List UInt8) (ns : List ByteArray) : Prop :=
  (t ≠ [] ∧ Bare t ∧ ns = [mkB t]) ∨ ∃ P a b, P ≠ [] ∧ Bare P ∧ Digs a ∧ a ≠ [] ∧ a.length ≤ 6 ∧ Digs b ∧ b ≠ [] ∧ b.length ≤ 6 ∧ valD a ≤ valD b ∧ t = P ++ 91 :: (a ++ 45 :: (b ++ [93])) ∧ ns = namesS P (valD a, valD b, widthOf a)
theorem part_ev (s : ByteArray) (hs : s.size ≤ 1000000000) (out : List ByteArray) (p : Nat) (hp : p ≤ s.size) (t rest : List UInt8) (ns : List ByteArray) (hrep : Rep t ns) (ho : out.length + ns.length ≤ 256) (h : (L s).drop p = t ++ rest) (hr : rest = [] ∨ rest.head? = some 44) (r : ER)
    (hE : Ev (fun k => stage k s (out ++ ns) s ((p + t.length : Nat) : Int)) r) : Ev (fun k => host_Expand.l0 k s out s (p : Int) 0 0) r := by
  rcases hrep with ⟨h1, h2, rfl⟩ | ⟨P, a, b, hP, hb, ha, ha0, ha6, hbD, hb0, hb6, hv, rfl, rfl⟩
  · exact part_plain s hs out ho p hp t rest h1 h2 h hr r hE
  · have hc : (namesS P (valD a, valD b, widthOf a)).length = cntS (valD a, valD b, widthOf a) := by unfold namesS; simp
    rw [hc] at ho
    have hlen := len_split s p _ _ h hp
    refine part_ranges s hs out p hp P a b rest hP hb ha ha0 ha6 hbD hb0 hb6 hv h hr r ?_
    refine j6_spans s s out (p : Int) (mkB P) (by rw [mkB_size]; simp at hlen; omega) _ (by
      intro x hx
      rw [List.mem_singleton.1 hx]
      exact ⟨hv, valD_six b hbD hb6, by show widthOf a ≤ 6; have := width_le a; omega⟩) (by simp) _ (by simp [sumS]; exact ho) r ?_
    rw [L_mkB, List.flatMap_cons, List.flatMap_nil, List.append_nil]
    exact hE
theorem parts_ev (s : ByteArray) (hs : s.size ≤ 1000000000) : ∀ (ps : List (List UInt8 × List ByteArray)) (out : List ByteArray) (p : Nat), p ≤ s.size → ps ≠ [] → (∀ x ∈ ps, Rep x.1 x.2) → out.length + (ps.flatMap (·.2)).length ≤ 256 →
    (L s).drop p = Go.Lib.join (ps.map (·.1)) [44] → Ev (fun k => host_Expand.l0 k s out s (p : Int) 0 0) (out ++ ps.flatMap (·.2), 0, 0) := by
  intro ps
  induction ps with
  | nil => intro out p _ h; exact absurd rfl h
  | cons x ps ih =>
    intro out p hp _ hrep ho h
    have hx := hrep x (by simp)
    rw [List.flatMap_cons, List.length_append] at ho
    rw [List.flatMap_cons, ← List.append_assoc]
    cases ps with
    | nil =>
      have h2 : (L s).drop p = x.1 ++ [] := by rw [h]; simp [Go.Lib.join, List.intercalate]
      have hlen := len_split s p _ _ h2 hp
      simp only [List.length_nil] at hlen
      refine part_ev s hs out p hp x.1 [] x.2 hx (by omega) h2 (.inl rfl) _ ?_
      have := stage_end s s (out ++ x.2) (p + x.1.length) (by omega) (by rw [get_split _ _ _ _ h2]; simp)
      simpa using this
    | cons y ps =>
      have h2 : (L s).drop p = x.1 ++ 44 :: Go.Lib.join ((y :: ps).map (·.1)) [44] := by rw [h]; simp [Go.Lib.join, List.intercalate]
      have hlen := len_split s p _ _ h2 hp
      simp only [List.length_cons] at hlen
      refine part_ev s hs out p hp x.1 _ x.2 hx (by omega) h2 (.inr rfl) _ ?_
      refine stage_comma s s (by omega) _ _ (by rw [get_split _ _ _ _ h2]; rfl) _ ?_
      refine ih (out ++ x.2) (p + x.1.length + 1) (by omega) (by simp) (fun z hz => hrep z (List.mem_cons_of_mem _ hz)) (by rw [List.length_append]; omega) ?_
      rw [← List.drop_drop, drop_split _ _ _ _ h2]; rfl
theorem expand_f (s : ByteArray) (h : s.size ≠ 0) (r : ER) (hE : Ev (fun k => host_Expand.l0 k s [] s 0 0 0) r) : Ev (fun k => host_Expand.f k s) r := by
  obtain ⟨K, hK⟩ := hE
  refine ⟨K, fun k hk => ?_⟩
  simp only [host_Expand.f]
  rw [if_neg (by rw [toList_L]; intro e; rw [← L_length, e] at h; exact h rfl)]
  exact hK k hk
theorem expand_nil (s : ByteArray) (h : L s = []) : Ev (fun k => host_Expand.f k s) ([], 0, 0) := by
  refine ⟨0, fun k hk => ?_⟩
  simp only [host_Expand.f]
  rw [if_pos (by rw [toList_L]; exact h)]
def gN (m : Nat) (b : ByteArray) : Prop := b.size ≠ 0 ∧ b.size ≤ m ∧ Bare (L b)
theorem dig_bare (d : List UInt8) (h : Digs d) : Bare d := fun c hc => bare_dig c (h c hc)
end Go.Proofs.YtoammgpfbdcphaaDoor.Hx
end
section
namespace Go.Proofs.YtoammgpfbdcphaaDoor.PH
open Go.RowKit Go.Proofs.YtoammgpfbdcphaaDoor.Lib Go.Proofs.YtoammgpfbdcphaaDoorW.PrintWords Go.Proofs.YtoammgpfbdcphaaDoorW.PrintLast Go.Proofs.YtoammgpfbdcphaaDoorW.PrintMore
attribute [local go_sem] max2_int min2_int max_two min_two max_three min_three max_four min_four   
set_option linter.unusedVariables false
set_option linter.unusedSimpArgs false
def host_Number.l0 : Nat → ByteArray → Int → Option (ByteArray × Int × Int × Bool)
 | 0, _, _ => none
 | k + 1, x0, x6 => if x6 > 0 then (if (wrap64 ((x0.size : Int) - x6)) < 6 then (if 0 ≤ (wrap64 (x6 - 1)) then (if (wrap64 (x6 - 1)) < (x0.size : Int) then ((host_isDigit.f (bt x0 (wrap64 (x6 - 1)))).bind fun t212 => (if t212 = true then (host_Number.l0 k x0 (wrap64 (x6 - 1))) else (if x6 = 0 then (some (x0, 0, 0, false)) else (if x6 = (x0.size : Int) then (some (x0, 0, 0, false)) else (if 0 ≤ x6 then (if x6 ≤ (x0.size : Int) then ((strconv_Atoi.f (x0.extract (x6 : Int).toNat x0.size)).bind fun bt213 => (some (x0.extract 0 (x6 : Int).toNat, bt213.1, wrap64 ((x0.size : Int) - x6), true))) else (none)) else (none)))))) else (none)) else (none)) else (if x6 = 0 then (some (x0, 0, 0, false)) else (if x6 = (x0.size : Int) then (some (x0, 0, 0, false)) else (if 0 ≤ x6 then (if x6 ≤ (x0.size : Int) then ((strconv_Atoi.f (x0.extract (x6 : Int).toNat x0.size)).bind fun bt215 => (some (x0.extract 0 (x6 : Int).toNat, bt215.1, wrap64 ((x0.size : Int) - x6), true))) else (none)) else (none))))) else (if x6 = 0 then (some (x0, 0, 0, false)) else (if x6 = (x0.size : Int) then (some (x0, 0, 0, false)) else (if 0 ≤ x6 then (if x6 ≤ (x0.size : Int) then ((strconv_Atoi.f (x0.extract (x6 : Int).toNat x0.size)).bind fun bt217 => (some (x0.extract 0 (x6 : Int).toNat, bt217.1, wrap64 ((x0.size : Int) - x6), true))) else (none)) else (none))))
def host_Number.f (k : Nat) (a0 : ByteArray) : Option (ByteArray × Int × Int × Bool) := host_Number.l0 k a0 (a0.size : Int)
theorem host_Number.mono_l : ∀ k,(∀ y0 y1,LeO (host_Number.l0 k y0 y1) (host_Number.l0 (k + 1) y0 y1))
|0 => fun _ _ r h => by simp [host_Number.l0] at h
|k + 1 => by
  have ih0:=host_Number.mono_l k
  ·intro y0 y1
   unfold host_Number.l0
   repeat' first
  |(with_reducible exact ih0 _ _)
  |(with_reducible exact LeO.refl _)
  |(with_reducible exact LeO.none _)
  |(with_reducible refine LeO.ite ?_ ?_)
  |(with_reducible refine LeO.bind ?_ (fun _ => ?_))
  |exact ih0 _ _
  |exact LeO.none _
  |refine LeO.ite ?_ ?_
  |refine LeO.bind ?_ (fun _ => ?_)
theorem host_Number.mono : ∀ a0 k,LeO (host_Number.f k a0) (host_Number.f (k + 1) a0):=by
 (intro a0 k);(have ih0:=host_Number.mono_l k);(unfold host_Number.f)
 repeat' first
  |(with_reducible exact ih0 _ _)
  |(with_reducible exact LeO.refl _)
  |(with_reducible exact LeO.none _)
  |(with_reducible refine LeO.ite ?_ ?_)
  |(with_reducible refine LeO.bind ?_ (fun _ => ?_))
  |exact ih0 _ _
  |exact LeO.none _
  |refine LeO.ite ?_ ?_
  |refine LeO.bind ?_ (fun _ => ?_)
set_option maxHeartbeats 8000000 in
set_option maxRecDepth 100000 in
theorem host_Number.calls (k : Nat) (a0 : ByteArray) (r1 : ByteArray) (r2 : Int) (r3 : Int) (r4 : Bool) (w : World) (h : host_Number.f k a0 = some (r1,r2,r3,r4)) (hG_ : Glob w) :
  Calls Tryd.prog 15 #[.string a0] w fun e w' => e = .returned (.tuple #[.string r1,.int .i64 r2,.int .i64 r3,.bool r4])∧Below w.heap.size w w':=by
 (have HG_:=Aside0.mk hG_);(clear hG_);(have HB:=Aside0.mk (Below.refl w.heap.size w));(have H : (host_Number.l0 k a0 (a0.size : Int)) = some (r1,r2,r3,r4):=h);(clear h);(have H':=Aside0.mk H);(clear H);(go_enter Tryd.func15,Tryd.ntmps15);(go_wp2);(go_loopg [6] k (fun kq v6 w' => ∃ (x6_1 : Int),v6 = .int .i64 x6_1∧Aside0 (host_Number.l0 kq a0 x6_1 = some (r1,r2,r3,r4))∧Aside0 (kq ≤ k)∧Aside0 (Below w.heap.size w w')))
 case atStart => exact ⟨((a0.size : Int)),(by first|rfl|(simp;done)|(simp [*];done)),H',⟨Nat.le_refl _⟩,⟨by repeat (first|(with_reducible first|exact HB.out|apply below_alloc|apply pw_below_drewN|apply below_drew1)|exact HB.out)⟩⟩
 case round =>
  (clear H');(try clear c1);(obtain ⟨x6_1,rfl,HA,HK1,HB⟩:=hrel)
  cases gk with
 |zero => exact absurd HA.out (by simp [host_Number.l0])
 |succ k1 =>
   (have H:=HA.out);(clear HA);(simp only [host_Number.l0] at H);(by_cases c2 : x6_1 > 0)
   ·(rw [if_pos c2] at H);(have c2b0 : decide (0 < x6_1) = true:=decide_eq_true c2);(clear c2);(by_cases c3 : (wrap64 ((a0.size : Int) - x6_1)) < 6)
    ·(rw [if_pos c3] at H);(have c3b0 : decide ((wrap64 ((a0.size : Int) - x6_1)) < 6) = true:=decide_eq_true c3);(clear c3);(obtain ⟨ji4,hji4⟩ : ∃ j_ : Int,(wrap64 (x6_1 - 1)) = j_:=⟨_,rfl⟩);(replace H : (if 0 ≤ (ji4) then (if (ji4) < (a0.size : Int) then ((host_isDigit.f (bt a0 (ji4))).bind fun t212 => (if t212 = true then (host_Number.l0 k1 a0 ji4) else (if x6_1 = 0 then (some (a0,0,0,false)) else (if x6_1 = (a0.size : Int) then (some (a0,0,0,false)) else (if 0 ≤ x6_1 then (if x6_1 ≤ (a0.size : Int) then ((strconv_Atoi.f (a0.extract (x6_1 : Int).toNat a0.size)).bind fun bt213 => (some (a0.extract 0 (x6_1 : Int).toNat,bt213.1,wrap64 ((a0.size : Int) - x6_1),true))) else (none)) else (none)))))) else (none)) else (none)) = some (r1,r2,r3,r4):=by first|(rw [hji4] at H;exact H)|(simp only [hji4] at H ⊢;exact H));(have hji4w : (IntKind.i64.wrap (x6_1 - 1)) = ji4:=(i64_w _).trans hji4);(by_cases c5 : 0 ≤ (ji4))
     ·(rw [if_pos c5] at H);(have c5b0 : decide (0 ≤ (ji4)) = true:=decide_eq_true c5);(clear c5);(by_cases c6 : (ji4) < (a0.size : Int))
      ·(rw [if_pos c6] at H);(have c6b0 : decide ((ji4) < (a0.size : Int)) = true:=decide_eq_true c6);(clear c6);(replace H:=Option.bind_eq_some_iff.mp H);(obtain ⟨t212,A80,H⟩:=H);(replace H : (if t212 = true then (host_Number.l0 k1 a0 ji4) else (if x6_1 = 0 then (some (a0,0,0,false)) else (if x6_1 = (a0.size : Int) then (some (a0,0,0,false)) else (if 0 ≤ x6_1 then (if x6_1 ≤ (a0.size : Int) then ((strconv_Atoi.f (a0.extract (x6_1 : Int).toNat a0.size)).bind fun bt213 => (some (a0.extract 0 (x6_1 : Int).toNat,bt213.1,wrap64 ((a0.size : Int) - x6_1),true))) else (none)) else (none))))) = some (r1,r2,r3,r4):=H);(have A8:=Aside0.mk A80);(clear A80);(by_cases c9 : t212 = true)
       ·(subst c9);(have H1 : (host_Number.l0 k1 a0 ji4) = some (r1,r2,r3,r4):=by rw [if_pos rfl] at H;exact H);(clear H);(have H:=H1);(clear H1);(have H':=Aside0.mk H);(clear H);(have p7 : 0 ≤ ((ji4) : Int):=of_decide_eq_true (by first|(with_reducible assumption)|assumption));(have q7 : (ji4) < (a0.size : Int):=of_decide_eq_true (by first|(with_reducible assumption)|assumption));(have hx7:=bt_at a0 (ji4));(replace p7:=eq_true p7);(replace q7:=eq_true q7);(go_wp2_with (first|(go_at_call 30;(with_reducible refine (host_isDigit.calls (bt a0 (ji4)) true _ A8.out).mono ?_);rintro e w' ⟨rfl,⟨nd,rfl⟩⟩)));(go_roundg k1)
        case measure => have:=HK1.out;omega
        case rel => exact ⟨(ji4),(by first|rfl|(simp;done)|(simp only [← hji4] <;> (first|rfl|simp))|(simp [*];done)),H',⟨by have:=HK1.out;omega⟩,⟨by repeat (first|(with_reducible first|exact HB.out|apply below_alloc|apply pw_below_drewN|apply below_drew1)|exact HB.out)⟩⟩
       ·(replace c9:=Bool.eq_false_iff.mpr c9);(subst c9);(have H1 : (if x6_1 = 0 then (some (a0,0,0,false)) else (if x6_1 = (a0.size : Int) then (some (a0,0,0,false)) else (if 0 ≤ x6_1 then (if x6_1 ≤ (a0.size : Int) then ((strconv_Atoi.f (a0.extract (x6_1 : Int).toNat a0.size)).bind fun bt213 => (some (a0.extract 0 (x6_1 : Int).toNat,bt213.1,wrap64 ((a0.size : Int) - x6_1),true))) else (none)) else (none)))) = some (r1,r2,r3,r4):=by rw [if_neg (show ¬ (false = true) by decide)] at H;exact H);(clear H);(have H:=H1);(clear H1);(by_cases c10 : x6_1 = 0)
        ·(rw [if_pos c10] at H);(have c10b0 : (x6_1 == 0) = true:=beq_iff_eq.mpr c10);(have c10b1 : (x6_1 != 0) = false:=bne_eq_false_iff_eq.mpr c10);(clear c10);(simp only [Option.some.injEq,Prod.mk.injEq] at H);(obtain ⟨rfl,rfl,rfl,rfl⟩:=H);(have p7 : 0 ≤ ((ji4) : Int):=of_decide_eq_true (by first|(with_reducible assumption)|assumption));(have q7 : (ji4) < (a0.size : Int):=of_decide_eq_true (by first|(with_reducible assumption)|assumption));(have hx7:=bt_at a0 (ji4));(replace p7:=eq_true p7);(replace q7:=eq_true q7);(go_wp2_with (first|(go_at_call 30;(with_reducible refine (host_isDigit.calls (bt a0 (ji4)) false _ A8.out).mono ?_);rintro e w' ⟨rfl,⟨nd,rfl⟩⟩)));(refine bodyPost_ret (results_list (rs:=[.tmp 2,.tmp 3,.tmp 4,.tmp 5]) rfl (by simp) (.tmp (.tmp (.tmp (.tmp .nil))))) rfl ?_);(exact ⟨by first|rfl|(simp [errW_none,errW_some] <;> rfl)|(simp only [← hji4];first|rfl|(simp [errW_none,errW_some] <;> rfl))|(simp [*,errW_none,errW_some] <;> rfl),by repeat (first|(with_reducible first|exact HB.out|apply below_alloc|apply pw_below_drewN|apply below_drew1)|exact HB.out)⟩)
        ·(rw [if_neg c10] at H);(have c10b0 : (x6_1 == 0) = false:=beq_eq_false_iff_ne.mpr c10);(have c10b1 : (x6_1 != 0) = true:=bne_iff_ne.mpr c10);(by_cases c11 : x6_1 = (a0.size : Int))
         ·(rw [if_pos c11] at H);(have c11b0 : (x6_1 == (a0.size : Int)) = true:=beq_iff_eq.mpr c11);(have c11b1 : (x6_1 != (a0.size : Int)) = false:=bne_eq_false_iff_eq.mpr c11);(clear c11);(simp only [Option.some.injEq,Prod.mk.injEq] at H);(obtain ⟨rfl,rfl,rfl,rfl⟩:=H);(have p7 : 0 ≤ ((ji4) : Int):=of_decide_eq_true (by first|(with_reducible assumption)|assumption));(have q7 : (ji4) < (a0.size : Int):=of_decide_eq_true (by first|(with_reducible assumption)|assumption));(have hx7:=bt_at a0 (ji4));(replace p7:=eq_true p7);(replace q7:=eq_true q7);(go_wp2_with (first|(go_at_call 30;(with_reducible refine (host_isDigit.calls (bt a0 (ji4)) false _ A8.out).mono ?_);rintro e w' ⟨rfl,⟨nd,rfl⟩⟩)));(refine bodyPost_ret (results_list (rs:=[.tmp 2,.tmp 3,.tmp 4,.tmp 5]) rfl (by simp) (.tmp (.tmp (.tmp (.tmp .nil))))) rfl ?_);(exact ⟨by first|rfl|(simp [errW_none,errW_some] <;> rfl)|(simp only [← hji4];first|rfl|(simp [errW_none,errW_some] <;> rfl))|(simp [*,errW_none,errW_some] <;> rfl),by repeat (first|(with_reducible first|exact HB.out|apply below_alloc|apply pw_below_drewN|apply below_drew1)|exact HB.out)⟩)
         ·(rw [if_neg c11] at H);(have c11b0 : (x6_1 == (a0.size : Int)) = false:=beq_eq_false_iff_ne.mpr c11);(have c11b1 : (x6_1 != (a0.size : Int)) = true:=bne_iff_ne.mpr c11);(by_cases c12 : 0 ≤ x6_1)
          ·(rw [if_pos c12] at H);(have c12b0:=eq_true c12);(have c12b1 : decide (0 ≤ x6_1) = true:=decide_eq_true c12);(clear c12);(by_cases c13 : x6_1 ≤ (a0.size : Int))
           ·(rw [if_pos c13] at H);(have c13b0:=eq_true c13);(have c13b1 : decide (x6_1 ≤ (a0.size : Int)) = true:=decide_eq_true c13);(clear c13);(replace H:=Option.bind_eq_some_iff.mp H);(obtain ⟨⟨t213,t214⟩,A140,H⟩:=H);(replace H : (some (a0.extract 0 (x6_1 : Int).toNat,t213,wrap64 ((a0.size : Int) - x6_1),true)) = some (r1,r2,r3,r4):=H);(have A14:=Aside0.mk A140);(clear A140);(have c15b0:=eq_true (of_decide_eq_true (by first|(with_reducible assumption)|assumption) : 0 ≤ x6_1));(have c16b0:=eq_true (of_decide_eq_true (by first|(with_reducible assumption)|assumption) : x6_1 ≤ (a0.size : Int)));(simp only [Option.some.injEq,Prod.mk.injEq] at H);(obtain ⟨rfl,rfl,rfl,rfl⟩:=H);(have p7 : 0 ≤ ((ji4) : Int):=of_decide_eq_true (by first|(with_reducible assumption)|assumption));(have q7 : (ji4) < (a0.size : Int):=of_decide_eq_true (by first|(with_reducible assumption)|assumption));(have hx7:=bt_at a0 (ji4));(replace p7:=eq_true p7);(replace q7:=eq_true q7);(go_wp2_with (first|(go_at_call 30;(with_reducible refine (host_isDigit.calls (bt a0 (ji4)) false _ A8.out).mono ?_);rintro e w' ⟨rfl,⟨nd,rfl⟩⟩)|((with_reducible refine gate_callee (f:=31) rfl ?_);refine goesL_ (some 42) rfl rfl Tryd.func31 (by kernel_rfl) rfl #[.string (a0.extract (x6_1 : Int).toNat a0.size)] rfl (by (try simp only [List.map_toArray,List.map_cons,List.map_nil]);first|done|rfl|(simp only [List.length_drop,List.length_take];rfl)) ?_;(with_reducible refine (strconv_Atoi.calls (a0.extract (x6_1 : Int).toNat a0.size) t213 t214 _ A14.out (HG_.out.below (by repeat (first|(with_reducible first|exact HB.out|apply below_alloc|apply pw_below_drewN|apply below_drew1)|exact HB.out)))).mono ?_);rintro e w17 ⟨ev_,rfl,hb⟩;refine ⟨_,rfl,?_⟩;have n0_:=Aside0.mk (below_step (by repeat (first|(with_reducible first|exact HB.out|apply below_alloc|apply pw_below_drewN|apply below_drew1)|exact HB.out)) hb);clear HB;have HB:=n0_;clear n0_;(try clear hb);(try clear hb2);(try clear hk);(try clear hi);(try simp only [errW_none,errW_some]))));(refine bodyPost_ret (results_list (rs:=[.tmp 2,.tmp 3,.tmp 4,.tmp 5]) rfl (by simp) (.tmp (.tmp (.tmp (.tmp .nil))))) rfl ?_);(exact ⟨by first|rfl|(simp [errW_none,errW_some] <;> rfl)|(simp only [← hji4];first|rfl|(simp [errW_none,errW_some] <;> rfl))|(simp [*,errW_none,errW_some] <;> rfl),by repeat (first|(with_reducible first|exact HB.out|apply below_alloc|apply pw_below_drewN|apply below_drew1)|exact HB.out)⟩)
           ·(rw [if_neg c13] at H);(exact absurd H (by simp))
          ·(rw [if_neg c12] at H);(exact absurd H (by simp))
      ·(rw [if_neg c6] at H);(exact absurd H (by simp))
     ·(rw [if_neg c5] at H);(exact absurd H (by simp))
    ·(rw [if_neg c3] at H);(have c3b0 : decide ((wrap64 ((a0.size : Int) - x6_1)) < 6) = false:=decide_eq_false c3);(clear c3);(by_cases c18 : x6_1 = 0)
     ·(rw [if_pos c18] at H);(have c18b0 : (x6_1 == 0) = true:=beq_iff_eq.mpr c18);(have c18b1 : (x6_1 != 0) = false:=bne_eq_false_iff_eq.mpr c18);(clear c18);(simp only [Option.some.injEq,Prod.mk.injEq] at H);(obtain ⟨rfl,rfl,rfl,rfl⟩:=H);(go_wp2);(refine bodyPost_ret (results_list (rs:=[.tmp 2,.tmp 3,.tmp 4,.tmp 5]) rfl (by simp) (.tmp (.tmp (.tmp (.tmp .nil))))) rfl ?_);(exact ⟨by first|rfl|(simp [errW_none,errW_some] <;> rfl)|(simp [*,errW_none,errW_some] <;> rfl),by repeat (first|(with_reducible first|exact HB.out|apply below_alloc|apply pw_below_drewN|apply below_drew1)|exact HB.out)⟩)
     ·(rw [if_neg c18] at H);(have c18b0 : (x6_1 == 0) = false:=beq_eq_false_iff_ne.mpr c18);(have c18b1 : (x6_1 != 0) = true:=bne_iff_ne.mpr c18);(by_cases c19 : x6_1 = (a0.size : Int))
      ·(rw [if_pos c19] at H);(have c19b0 : (x6_1 == (a0.size : Int)) = true:=beq_iff_eq.mpr c19);(have c19b1 : (x6_1 != (a0.size : Int)) = false:=bne_eq_false_iff_eq.mpr c19);(clear c19);(simp only [Option.some.injEq,Prod.mk.injEq] at H);(obtain ⟨rfl,rfl,rfl,rfl⟩:=H);(go_wp2);(refine bodyPost_ret (results_list (rs:=[.tmp 2,.tmp 3,.tmp 4,.tmp 5]) rfl (by simp) (.tmp (.tmp (.tmp (.tmp .nil))))) rfl ?_);(exact ⟨by first|rfl|(simp [errW_none,errW_some] <;> rfl)|(simp [*,errW_none,errW_some] <;> rfl),by repeat (first|(with_reducible first|exact HB.out|apply below_alloc|apply pw_below_drewN|apply below_drew1)|exact HB.out)⟩)
      ·(rw [if_neg c19] at H);(have c19b0 : (x6_1 == (a0.size : Int)) = false:=beq_eq_false_iff_ne.mpr c19);(have c19b1 : (x6_1 != (a0.size : Int)) = true:=bne_iff_ne.mpr c19);(by_cases c20 : 0 ≤ x6_1)
       ·(rw [if_pos c20] at H);(have c20b0:=eq_true c20);(have c20b1 : decide (0 ≤ x6_1) = true:=decide_eq_true c20);(clear c20);(by_cases c21 : x6_1 ≤ (a0.size : Int))
        ·(rw [if_pos c21] at H);(have c21b0:=eq_true c21);(have c21b1 : decide (x6_1 ≤ (a0.size : Int)) = true:=decide_eq_true c21);(clear c21);(replace H:=Option.bind_eq_some_iff.mp H);(obtain ⟨⟨t215,t216⟩,A220,H⟩:=H);(replace H : (some (a0.extract 0 (x6_1 : Int).toNat,t215,wrap64 ((a0.size : Int) - x6_1),true)) = some (r1,r2,r3,r4):=H);(have A22:=Aside0.mk A220);(clear A220);(have c23b0:=eq_true (of_decide_eq_true (by first|(with_reducible assumption)|assumption) : 0 ≤ x6_1));(have c24b0:=eq_true (of_decide_eq_true (by first|(with_reducible assumption)|assumption) : x6_1 ≤ (a0.size : Int)));(simp only [Option.some.injEq,Prod.mk.injEq] at H);(obtain ⟨rfl,rfl,rfl,rfl⟩:=H);(go_wp2_with (first|((with_reducible refine gate_callee (f:=31) rfl ?_);refine goesL_ (some 42) rfl rfl Tryd.func31 (by kernel_rfl) rfl #[.string (a0.extract (x6_1 : Int).toNat a0.size)] rfl (by (try simp only [List.map_toArray,List.map_cons,List.map_nil]);first|done|rfl|(simp only [List.length_drop,List.length_take];rfl)) ?_;(with_reducible refine (strconv_Atoi.calls (a0.extract (x6_1 : Int).toNat a0.size) t215 t216 _ A22.out (HG_.out.below (by repeat (first|(with_reducible first|exact HB.out|apply below_alloc|apply pw_below_drewN|apply below_drew1)|exact HB.out)))).mono ?_);rintro e w25 ⟨ev_,rfl,hb⟩;refine ⟨_,rfl,?_⟩;have n0_:=Aside0.mk (below_step (by repeat (first|(with_reducible first|exact HB.out|apply below_alloc|apply pw_below_drewN|apply below_drew1)|exact HB.out)) hb);clear HB;have HB:=n0_;clear n0_;(try clear hb);(try clear hb2);(try clear hk);(try clear hi);(try simp only [errW_none,errW_some]))));(refine bodyPost_ret (results_list (rs:=[.tmp 2,.tmp 3,.tmp 4,.tmp 5]) rfl (by simp) (.tmp (.tmp (.tmp (.tmp .nil))))) rfl ?_);(exact ⟨by first|rfl|(simp [errW_none,errW_some] <;> rfl)|(simp [*,errW_none,errW_some] <;> rfl),by repeat (first|(with_reducible first|exact HB.out|apply below_alloc|apply pw_below_drewN|apply below_drew1)|exact HB.out)⟩)
        ·(rw [if_neg c21] at H);(exact absurd H (by simp))
       ·(rw [if_neg c20] at H);(exact absurd H (by simp))
   ·(rw [if_neg c2] at H);(have c2b0 : decide (0 < x6_1) = false:=decide_eq_false c2);(clear c2);(by_cases c26 : x6_1 = 0)
    ·(rw [if_pos c26] at H);(have c26b0 : (x6_1 == 0) = true:=beq_iff_eq.mpr c26);(have c26b1 : (x6_1 != 0) = false:=bne_eq_false_iff_eq.mpr c26);(clear c26);(simp only [Option.some.injEq,Prod.mk.injEq] at H);(obtain ⟨rfl,rfl,rfl,rfl⟩:=H);(go_wp2);(refine bodyPost_ret (results_list (rs:=[.tmp 2,.tmp 3,.tmp 4,.tmp 5]) rfl (by simp) (.tmp (.tmp (.tmp (.tmp .nil))))) rfl ?_);(exact ⟨by first|rfl|(simp [errW_none,errW_some] <;> rfl)|(simp [*,errW_none,errW_some] <;> rfl),by repeat (first|(with_reducible first|exact HB.out|apply below_alloc|apply pw_below_drewN|apply below_drew1)|exact HB.out)⟩)
    ·(rw [if_neg c26] at H);(have c26b0 : (x6_1 == 0) = false:=beq_eq_false_iff_ne.mpr c26);(have c26b1 : (x6_1 != 0) = true:=bne_iff_ne.mpr c26);(by_cases c27 : x6_1 = (a0.size : Int))
     ·(rw [if_pos c27] at H);(have c27b0 : (x6_1 == (a0.size : Int)) = true:=beq_iff_eq.mpr c27);(have c27b1 : (x6_1 != (a0.size : Int)) = false:=bne_eq_false_iff_eq.mpr c27);(clear c27);(simp only [Option.some.injEq,Prod.mk.injEq] at H);(obtain ⟨rfl,rfl,rfl,rfl⟩:=H);(go_wp2);(refine bodyPost_ret (results_list (rs:=[.tmp 2,.tmp 3,.tmp 4,.tmp 5]) rfl (by simp) (.tmp (.tmp (.tmp (.tmp .nil))))) rfl ?_);(exact ⟨by first|rfl|(simp [errW_none,errW_some] <;> rfl)|(simp [*,errW_none,errW_some] <;> rfl),by repeat (first|(with_reducible first|exact HB.out|apply below_alloc|apply pw_below_drewN|apply below_drew1)|exact HB.out)⟩)
     ·(rw [if_neg c27] at H);(have c27b0 : (x6_1 == (a0.size : Int)) = false:=beq_eq_false_iff_ne.mpr c27);(have c27b1 : (x6_1 != (a0.size : Int)) = true:=bne_iff_ne.mpr c27);(by_cases c28 : 0 ≤ x6_1)
      ·(rw [if_pos c28] at H);(have c28b0:=eq_true c28);(have c28b1 : decide (0 ≤ x6_1) = true:=decide_eq_true c28);(clear c28);(by_cases c29 : x6_1 ≤ (a0.size : Int))
       ·(rw [if_pos c29] at H);(have c29b0:=eq_true c29);(have c29b1 : decide (x6_1 ≤ (a0.size : Int)) = true:=decide_eq_true c29);(clear c29);(replace H:=Option.bind_eq_some_iff.mp H);(obtain ⟨⟨t217,t218⟩,A300,H⟩:=H);(replace H : (some (a0.extract 0 (x6_1 : Int).toNat,t217,wrap64 ((a0.size : Int) - x6_1),true)) = some (r1,r2,r3,r4):=H);(have A30:=Aside0.mk A300);(clear A300);(have c31b0:=eq_true (of_decide_eq_true (by first|(with_reducible assumption)|assumption) : 0 ≤ x6_1));(have c32b0:=eq_true (of_decide_eq_true (by first|(with_reducible assumption)|assumption) : x6_1 ≤ (a0.size : Int)));(simp only [Option.some.injEq,Prod.mk.injEq] at H);(obtain ⟨rfl,rfl,rfl,rfl⟩:=H);(go_wp2_with (first|((with_reducible refine gate_callee (f:=31) rfl ?_);refine goesL_ (some 42) rfl rfl Tryd.func31 (by kernel_rfl) rfl #[.string (a0.extract (x6_1 : Int).toNat a0.size)] rfl (by (try simp only [List.map_toArray,List.map_cons,List.map_nil]);first|done|rfl|(simp only [List.length_drop,List.length_take];rfl)) ?_;(with_reducible refine (strconv_Atoi.calls (a0.extract (x6_1 : Int).toNat a0.size) t217 t218 _ A30.out (HG_.out.below (by repeat (first|(with_reducible first|exact HB.out|apply below_alloc|apply pw_below_drewN|apply below_drew1)|exact HB.out)))).mono ?_);rintro e w33 ⟨ev_,rfl,hb⟩;refine ⟨_,rfl,?_⟩;have n0_:=Aside0.mk (below_step (by repeat (first|(with_reducible first|exact HB.out|apply below_alloc|apply pw_below_drewN|apply below_drew1)|exact HB.out)) hb);clear HB;have HB:=n0_;clear n0_;(try clear hb);(try clear hb2);(try clear hk);(try clear hi);(try simp only [errW_none,errW_some]))));(refine bodyPost_ret (results_list (rs:=[.tmp 2,.tmp 3,.tmp 4,.tmp 5]) rfl (by simp) (.tmp (.tmp (.tmp (.tmp .nil))))) rfl ?_);(exact ⟨by first|rfl|(simp [errW_none,errW_some] <;> rfl)|(simp [*,errW_none,errW_some] <;> rfl),by repeat (first|(with_reducible first|exact HB.out|apply below_alloc|apply pw_below_drewN|apply below_drew1)|exact HB.out)⟩)
       ·(rw [if_neg c29] at H);(exact absurd H (by simp))
      ·(rw [if_neg c28] at H);(exact absurd H (by simp))
end Go.Proofs.YtoammgpfbdcphaaDoor.PH
end
