/- Part 4 of the proof. -/
import Derived.Test.YtcpikafmclfcfaaDoorZ03
import Derived.IntWalk
import Derived.RegionTactic
import Derived.RangeFuncNested
import Derived.RangeFuncBound
import Derived.RangeFuncCalls
import Derived.RangeFuncLeaves
import Derived.RangeFuncFrom
import Derived.Shelf.Abstract
import Derived.WalkKit
section
namespace Go.Proofs.YtcpikafmclfcfaaDoor.Vn
open Go.RowKit Go.Maps Go.Proofs.YtcpikafmclfcfaaDoor.Vl Go.Proofs.YtcpikafmclfcfaaDoor.Mp Go.Proofs.YtcpikafmclfcfaaDoor.PV Go.Proofs.YtcpikafmclfcfaaDoor.Tl Go.Proofs.YtcpikafmclfcfaaDoorW.PrintWords
set_option linter.unusedVariables false
set_option linter.unusedSimpArgs false
abbrev ltv : V3 → V3 → Bool := Go.Proofs.ltOf ordV
theorem strictV : Strict ltv := ⟨swoV.irrefl, swoV.trans, totV⟩
theorem tins_split (v : V3) : ∀ (a b : List (V3 × Nat)), (∀ x ∈ a, ltv x.1 v = true) → tins ltv v (a ++ b) = a ++ tins ltv v b
  | [], b, _ => rfl
  | x :: a, b, h => by
    rw [List.cons_append, tins, if_pos (h x (by simp)), tins_split v a b (fun y hy => h y (List.mem_cons_of_mem _ hy)), List.cons_append]
theorem tins_end (v : V3) (o : List (V3 × Nat)) (h : ∀ x ∈ o, ltv x.1 v = true) : tins ltv v o = o ++ [(v, 1)] := by
  have := tins_split v o [] h
  rwa [List.append_nil] at this
theorem take_drop_get {α : Type} (o : List α) (k : Nat) (hk : k < o.length) : o = o.take k ++ o[k] :: o.drop (k + 1) := by
  rw [List.getElem_cons_drop, List.take_append_drop]
theorem tins_hit (v : V3) (o : List (V3 × Nat)) (k : Nat) (hk : k < o.length) (h : ∀ x ∈ o.take k, ltv x.1 v = true) (h1 : ltv o[k].1 v = false) (h2 : o[k].1 = v) : tins ltv v o = o.set k (v, o[k].2 + 1) := by
  conv => lhs; rw [take_drop_get o k hk]
  rw [tins_split v _ _ h, tins, if_neg (by rw [h1]; simp), if_pos h2, List.set_eq_take_append_cons_drop, if_pos hk]
theorem tins_new (v : V3) (o : List (V3 × Nat)) (k : Nat) (hk : k < o.length) (h : ∀ x ∈ o.take k, ltv x.1 v = true) (h1 : ltv o[k].1 v = false) (h2 : o[k].1 ≠ v) : tins ltv v o = o.take k ++ [(v, 1)] ++ o.drop k := by
  conv => lhs; rw [take_drop_get o k hk]
  rw [tins_split v _ _ h, tins, if_neg (by rw [h1]; simp), if_neg h2, List.append_assoc]
  congr 1
  rw [List.getElem_cons_drop]
  rfl
theorem tins_len (v : V3) : ∀ o : List (V3 × Nat), (tins ltv v o).length ≤ o.length + 1
  | [] => by simp [tins]
  | x :: o => by
    unfold tins
    have := tins_len v o
    split
    · simp; omega
    · split <;> simp
theorem tally_snoc (l : List V3) (v : V3) : tally ltv (l ++ [v]) = tins ltv v (tally ltv l) := by simp [tally]
theorem tally_len (l : List V3) : (tally ltv l).length ≤ l.length := by
  have h : ∀ (n : Nat) (l : List V3), l.length = n → (tally ltv l).length ≤ n := by
    intro n
    induction n with
    | zero => intro l h; rw [List.length_eq_zero_iff.1 h]; simp [tally]
    | succ n ih =>
      intro l h
      have hne : l ≠ [] := by intro e; subst e; simp at h
      obtain ⟨l', x, rfl⟩ : ∃ l' x, l = l' ++ [x] := ⟨l.dropLast, l.getLast hne, (List.dropLast_concat_getLast hne).symm⟩
      rw [tally_snoc]
      have := tins_len x (tally ltv l')
      have := ih l' (by simpa using h)
      omega
  exact h _ l rfl
theorem tally_num (l : List V3) : ∀ x ∈ tally ltv l, x.2 ≤ l.length := by
  intro x hx
  obtain ⟨h1, h2, h3⟩ := fold_all strictV l [] List.Pairwise.nil (fun x hx => by cases hx)
  have h4 := h3 x.1
  have h0 : told ([] : List (V3 × Nat)) x.1 = 0 := rfl
  have h5 : told (l.foldl (fun o v => tins ltv v o) []) x.1 = x.2 := sor_told strictV _ h1 x hx
  rw [h0, Nat.zero_add, h5] at h4
  rw [h4]; unfold List.count; exact List.countP_le_length
def taT (p : V3 × Nat) : Ta := ⟨p.1.1.1, p.1.1.2.1, p.1.1.2.2, (p.2 : Int)⟩
def oT (o : List (V3 × Nat)) : List Ta := o.map taT
theorem oT_len (o : List (V3 × Nat)) : (oT o).length = o.length := List.length_map ..
def zT : Ta := ⟨0, 0, 0, 0⟩
theorem row_T {w : World} {base e : Nat} {ok : Nat → Prop} {v : Value} {xs : List Ta} (h : kT.R e w base ok v xs) (hn : 0 < xs.length) :
    ∃ g c, v = .slice (some ⟨g, 0, none⟩) xs.length c ∧ base ≤ g ∧ g < w.heap.size ∧ ∀ k (hk : k < xs.length), w.cell? ⟨g, k * 4, none⟩ = some (.int .i64 xs[k].a) ∧ w.cell? ⟨g, k * 4 + 1, none⟩ = some (.int .i64 xs[k].b) ∧ w.cell? ⟨g, k * 4 + 2, none⟩ = some (.int .i64 xs[k].c) ∧ w.cell? ⟨g, k * 4 + 3, none⟩ = some (.int .i64 xs[k].n) ∧ w.frozen? ⟨g, k * 4 + 3, none⟩ = false := by
  obtain ⟨inner, ho⟩ := Kd.R_own h
  rcases ho.2 with ⟨_, h0⟩ | ⟨g, cap, cur, rfl, hb, hg, _⟩
  · omega
  · have hlt : g < w.heap.size := blk_lt hg
    refine ⟨g, cap, rfl, hb, hlt, fun k hk => ?_⟩
    obtain ⟨ad, c, e, _, hK, hc0⟩ := Kd.C_get (Kd.R_reads' h).2.2 zT (k : Int) (by omega) (by omega)
    injection e with e
    subst e
    have hr : xs.getD (k : Int).toNat zT = xs[k] := by simp [hk]
    rw [hr] at hK
    obtain rfl := kT_open hK
    have ea : ∀ m, (⟨g, 0, none⟩ : Addr).add m = ⟨g, m, none⟩ := fun m => by
      unfold Addr.add
      split
      · rename_i h; rw [h]
      · simp
    have hc : ∀ j u, (cellsT xs[k])[j]? = some u → w.cell? ⟨g, k * 4 + j, none⟩ = some u := fun j u hj => by
      have := hc0 j u hj
      rw [ea, Int.toNat_natCast] at this
      exact this
    exact ⟨hc 0 _ rfl, hc 1 _ rfl, hc 2 _ rfl, hc 3 _ rfl, by simp [World.frozen?, hg]⟩
set_option maxHeartbeats 1000000 in
theorem rless_calls (x y : V3) (b : Bool) (hb : ltv x y = b) (w : World) : Calls Tryd.prog 22 #[.agg #[.int .i64 x.1.1, .int .i64 x.1.2.1, .int .i64 x.1.2.2], .agg #[.int .i64 y.1.1, .int .i64 y.1.2.1, .int .i64 y.1.2.2]] w fun e w' => e = .returned (.bool b) ∧ Below w.heap.size w w' := by
  rw [show ltv x y = _ from ltV x y] at hb
  subst hb
  generalize x.1.1 = a
  generalize x.1.2.1 = b
  generalize x.1.2.2 = c
  generalize y.1.1 = d
  generalize y.1.2.1 = f
  generalize y.1.2.2 = g
  by_cases h1 : a = d
  · subst h1
    by_cases h2 : b = f
    · subst h2
      rw [if_pos rfl, if_pos rfl]
      go_enter Tryd.func22, Tryd.ntmps22
      go_wp2
      all_goals
        go_ret
        exact ⟨rfl, below_alloc (below_alloc (Below.refl _ _) _) _⟩
    · rw [if_pos rfl, if_neg h2]
      have h3 : ((b : Int) != f) = true := by simpa using h2
      clear h2
      go_enter Tryd.func22, Tryd.ntmps22
      go_wp2
      all_goals
        go_ret
        exact ⟨rfl, below_alloc (below_alloc (Below.refl _ _) _) _⟩
  · rw [if_neg h1]
    have h3 : ((a : Int) != d) = true := by simpa using h1
    clear h1
    go_enter Tryd.func22, Tryd.ntmps22
    go_wp2
    all_goals
      go_ret
      exact ⟨rfl, below_alloc (below_alloc (Below.refl _ _) _) _⟩
end Go.Proofs.YtcpikafmclfcfaaDoor.Vn
end
section
namespace Go.Proofs.YtcpikafmclfcfaaDoor.Vn
open Go.RowKit Go.Maps Go.Proofs.YtcpikafmclfcfaaDoorW.PrintWords Go.Proofs.YtcpikafmclfcfaaDoorW.PrintLast Go.Proofs.YtcpikafmclfcfaaDoorW.PrintMore Go.Proofs.YtcpikafmclfcfaaDoor.PV Go.Proofs.YtcpikafmclfcfaaDoor.Vl Go.Proofs.YtcpikafmclfcfaaDoor.Mp
set_option linter.unusedVariables false
set_option linter.unusedSimpArgs false
theorem keys_calls (b : Nat) (w : World) : Calls Tryd.prog 52 #[.map (some b)] w fun e w' => e = .returned (.func (.func 70) #[] #[.pointer (some ⟨w.heap.size, 0, none⟩)]) ∧ w' = w.alloc (.cells #[.map (some b)] 77) :=
  callsIn_wide.1 (keys_in Fence.wide 0 trivial rfl b w)
theorem own_base_le {W : World} {base base' : Nat} {e : TypeId} {size : Nat} {v : Value} {k : Nat} {xs : List Value} (h : W.ownsRow base e size v k xs) (hb : base' ≤ base) : W.ownsRow base' e size v k xs := by
  refine ⟨h.1, ?_⟩
  rcases h.2 with hn | ⟨g, cap, cur, hv, hbg, rest⟩
  · exact .inl hn
  · exact .inr ⟨g, cap, cur, hv, Nat.le_trans hb hbg, rest⟩
theorem lookupK {l : List S23} {W : World} {b n : Nat} (hM : MapOf KV EI W b n (cntF l)) (x : V3) : (Instr.lookup 77 (.map (some b)) (.agg #[.int .i64 x.1.1, .int .i64 x.1.2.1, .int .i64 x.1.2.2]) false).run Tryd.prog W = .ok (.int .i64 (l.countP (isK x) : Int)) W := by
  have h := hM.run_plain Tryd.underlying77 (k := x) trivial
  rw [show (cntF l x).getD EI.zero = (l.countP (isK x) : Int) from cntF_get l x] at h
  exact h
theorem info48 : (Tryd.prog.info? 48).map (fun i => (i.zero, i.size, i.bytes)) = some (some (.agg #[.int .i64 0, .int .i64 0, .int .i64 0, .int .i64 0]), 4, 32) := by kernel_rfl
theorem rd_keys (ss : List V3) (k : Nat) (h : k < ss.length) : rd_T23 (ss.map s23) k = s23 ss[k] := by simp [rd_T23, h]
theorem sortedK (l : List S23) (b : Nat) (w : World) (hM : MapOf KV EI w b l.length (cntF l)) (hl : l.length ≤ 500) :
    Calls Tryd.prog 51 #[.func (.func 70) #[] #[.pointer (some ⟨w.heap.size, 0, none⟩)], .func (.func 42) #[] #[]] (w.alloc (.cells #[.map (some b)] 77)) fun e w' => ∃ (v : Value) (ss : List V3), e = .returned v ∧ Keys l ss ∧ ss.length ≤ 500 ∧ w'.ownsRow w.heap.size 23 3 v ss.length (ss.flatMap cellsV) ∧ Below w.heap.size w w' := by
  obtain ⟨D, h1, h2, h3⟩ := (hM.alloc (.cells #[.map (some b)] 77)).out
  have hmem : ∀ x : V3, has D (KV.lit x) = true ↔ ∃ y ∈ l, (y.f0, y.f1, y.f2) = x.1 := fun x => by
    rw [(h3 x).1]
    unfold cntF
    by_cases h : l.countP (isK x) = 0
    · rw [if_pos h]
      simp only [Option.isSome_none, Bool.false_eq_true, false_iff]
      exact fun hx => isK_mem.2 hx h
    · rw [if_neg h]
      simp only [Option.isSome_some, true_iff]
      exact isK_mem.1 h
  have hlen : ∀ ss : List V3, ss.Nodup → (∀ x, x ∈ ss ↔ has D (KV.lit x) = true) → ss.length ≤ 500 := fun ss hn hs => by
    have h4 := nodup_len (ss.map (·.1)) (l.map fun y => (y.f0, y.f1, y.f2)) ?_ ?_
    · rw [List.length_map, List.length_map] at h4; omega
    · refine List.pairwise_map.2 (hn.imp fun {a b} hab he => hab (Subtype.ext he))
    · intro z hz
      obtain ⟨x, hx, rfl⟩ := List.mem_map.1 hz
      obtain ⟨y, hy, e⟩ := (hmem x).1 ((hs x).1 hx)
      exact List.mem_map.2 ⟨y, hy, e⟩
  refine (sorted_calls w.heap.size b _ D _ (fun v y hv => by
    obtain ⟨x, e, _⟩ := EI.inv v _ hv
    exact ⟨x, e⟩) _ (by simp) ((blk_cell (blk_new w _) 0).trans rfl) h1 (by have := h1.size_le; omega) (fun ss a c => by have := hlen ss a c; omega)).mono ?_
  rintro e w' ⟨v, ss, rfl, ⟨k1, k2⟩, ho, hb⟩
  have hnd : ss.Nodup := k1.imp fun {a b} hab e => by rw [e, swoV.irrefl] at hab; cases hab
  have hb2 : Below w.heap.size w w' := below_then (below_alloc (Below.refl _ _) _) (by simp) hb
  exact ⟨v, ss, rfl, ⟨k1, fun x => (k2 x).trans (hmem x)⟩, hlen ss hnd k2, own_base_le ho (by simp), hb2⟩
set_option maxHeartbeats 40000000 in
set_option maxRecDepth 100000 in
theorem count_calls (A : Option Addr) (c : Nat) (l : List S23) (w : World) (hr : Kd.C k23 w A l.length l) (hl : l.length ≤ 500) (hwf : ∀ x ∈ l, (Lit.int .i64 x.f0).wf = true ∧ (Lit.int .i64 x.f1).wf = true ∧ (Lit.int .i64 x.f2).wf = true) :
    Calls Tryd.prog 29 #[.slice A l.length c] w fun e w' => ∃ (v : Value) (ss : List V3), e = .returned v ∧ Keys l ss ∧ kT.R 48 w' w.heap.size (fun _ => True) v (ss.map (taK l)) ∧ Below w.heap.size w w' := by
  have HR := Aside0.mk hr
  have HW := Aside0.mk hwf
  have hu23 := Tryd.underlying23
  have hmm := @run_makeMap Tryd.prog
  clear hr hwf
  go_enter Tryd.func29, Tryd.ntmps29
  go_wp2_with fail
  go_loopw [12] (fun v12 wr => ∃ (i : Nat), v12 = .int .i64 i ∧ i ≤ l.length ∧ Aside0 (MapOf KV EI wr w.heap.size i (cntF (l.take i))) ∧ Aside0 (Below w.heap.size w wr)) (fun v12 _ => l.length - (intOf v12).toNat)
  case atStart => exact ⟨0, rfl, Nat.zero_le _, ⟨by
    have e : cntF (l.take 0) = fun _ => none := by funext k; simp [cntF]
    rw [e]; exact MapOf.made w⟩, ⟨below_alloc (Below.refl _ _) _⟩⟩
  case round =>
    obtain ⟨i, rfl, hi, HM, HB⟩ := hrel
    by_cases hlt : i < l.length
    · obtain ⟨ad, rfl, hx0, hx1, hx2⟩ := at_T23 HR.out i (by omega) (by omega)
      rw [Int.toNat_natCast] at hx0 hx1 hx2
      rw [rdn23 l i hlt] at hx0 hx1 hx2
      have hw := HW.out l[i] (List.getElem_mem _)
      have hS := List.take_succ_eq_append_getElem hlt
      generalize l[i] = x at hx0 hx1 hx2 hw hS
      obtain ⟨k, hk⟩ : ∃ k : V3, (x.f0, x.f1, x.f2) = k.1 := ⟨⟨(x.f0, x.f1, x.f2), hw⟩, rfl⟩
      have HS := Aside0.mk hS
      have HK := Aside0.mk hk
      replace hx0 := (HB.out.cell (World.block_lt_of_cell? w _ hx0)).trans hx0
      replace hx1 := (HB.out.cell (World.block_lt_of_cell? w _ hx1)).trans hx1
      replace hx2 := (HB.out.cell (World.block_lt_of_cell? w _ hx2)).trans hx2
      clear hS hk hw
      go_wp2_with fail
      obtain ⟨nn, hnn⟩ : ∃ nn : Nat, (l.take i).countP (isK k) = nn := ⟨_, rfl⟩
      have hle : nn ≤ 500 := by rw [← hnn]; exact Nat.le_trans List.countP_le_length (by rw [List.length_take]; omega)
      have hM2 := (HM.out.alloc (.cells #[.int .i64 x.f0, .int .i64 x.f1, .int .i64 x.f2] 23)).drew
      have hg0 : (cntF (l.take i) k).getD EI.zero = (nn : Int) := by rw [← hnn]; exact cntF_get _ k
      have hwn : (Lit.int .i64 (nn : Int)).wf = true := wfN (by omega)
      have hwn1 : (Lit.int .i64 ((nn : Int) + 1)).wf = true := wfN (p := nn + 1) (by omega)
      obtain ⟨st, W1, W3, e1, e2, e3, e4, m3, g1, g3⟩ := hM2.entry law23 Tryd.underlying77 (by unfold maxLen; omega) (k := k) trivial (by rw [hg0]; exact hwn) (y := (nn : Int) + 1) hwn1
      have hkv : KV.val k = .agg #[.int .i64 x.f0, .int .i64 x.f1, .int .i64 x.f2] := by
        show Value.agg #[.int .i64 k.1.1, .int .i64 k.1.2.1, .int .i64 k.1.2.2] = _
        rw [← HK.out]
      have hev : EI.val ((cntF (l.take i) k).getD EI.zero) = .int .i64 (nn : Int) := by rw [hg0]; rfl
      have hev1 : EI.val ((nn : Int) + 1) = .int .i64 ((nn : Int) + 1) := rfl
      rw [hkv, hev] at e1 e2 e3
      rw [hev1] at e4
      replace e1 : (Instr.mapEntry 77 (.map (some w.heap.size)) (.agg #[.int .i64 x.f0, .int .i64 x.f1, .int .i64 x.f2])).run Tryd.prog _ = .ok (.tuple #[.int .i64 (nn : Int), .int .i64 (st : Int)]) W1 := e1
      replace e4 : (Instr.entryStore 77 (.map (some w.heap.size)) (.int .i64 (st : Int)) (.int .i64 ((nn : Int) + 1))).run Tryd.prog W1 = .ok () W3 := e4
      have BK := Aside0.mk (blk_drew (blk_new wr (.cells #[.int .i64 x.f0, .int .i64 x.f1, .int .i64 x.f2] 23)))
      have hwr : IntKind.i64.wrap ((nn : Int) + 1) = (nn : Int) + 1 := IntWalk.i64_in _ (by omega)
      have HB2 := Aside0.mk (below_drew (below_alloc HB.out (.cells #[.int .i64 x.f0, .int .i64 x.f1, .int .i64 x.f2] 23)))
      have M3 := Aside0.mk m3
      have G1 := Aside0.mk g1
      have G3 := Aside0.mk g3
      have HN := Aside0.mk hnn
      clear hx0 hx1 hx2 hM2 hg0 hwn hwn1 hkv hev hev1 m3 g1 g3 hnn hle
      have hy0 := (blk_cell BK.out 0).trans (show _ = some (Value.int .i64 x.f0) from rfl)
      have hy1 := (blk_cell BK.out 1).trans (show _ = some (Value.int .i64 x.f1) from rfl)
      have hy2 := (blk_cell BK.out 2).trans (show _ = some (Value.int .i64 x.f2) from rfl)
      go_region
      go_wp2
      go_roundw
      case rel => exact ⟨i + 1, by go_num, by omega, ⟨by rw [HS.out, cntF_snoc _ x k HK.out, HN.out]; exact M3.out⟩, ⟨HB2.out.grown G3.out HB2.out.size (fun q hq => by rw [← Option.some.inj hq]; exact Nat.le_refl _)⟩⟩
      case measure => simp [intOf]; omega
    · have e : l.take i = l := List.take_of_length_le (by omega)
      rw [e] at HM
      clear e
      have HW2 := Aside0.mk (sortedK l w.heap.size wr (HM.out.mono hi) hl)
      go_wp2_with fail
      refine (keys_calls _ _).mono ?_
      rintro e w1 ⟨rfl, rfl⟩
      go_wp2_with fail
      refine HW2.out.mono ?_
      rintro e w2 ⟨v, ss, rfl, hk, hs5, ho, hb⟩
      have HK := Aside0.mk hk
      have hR2 := keysR ho
      obtain ⟨A2, c2, hv⟩ := Kd.R_slice hR2
      subst hv
      have HC2 := Aside0.mk (Kd.R_reads' hR2).2.2
      have HM2 := Aside0.mk ((HM.out.mono hi).below hb)
      have HB2 := Aside0.mk (below_step HB.out hb)
      clear hk ho hb hR2 HW2 HM HB HR HW
      rw [List.length_map] at HC2 ⊢
      go_wp2_with fail
      go_loopw [6, 27] (fun v6 v27 wq => ∃ k : Nat, v27 = .int .i64 k ∧ k ≤ ss.length ∧ Aside0 (kT.R 48 wq w2.heap.size (fun _ => True) v6 ((ss.take k).map (taK l))) ∧ Aside0 (Below w2.heap.size w2 wq)) (fun _ v27 _ => ss.length - (intOf v27).toNat)
      case atStart => exact ⟨0, rfl, Nat.zero_le _, ⟨Kd.R_nil _ _ _ _ _⟩, ⟨Below.refl _ _⟩⟩
      case round =>
        obtain ⟨k, rfl, hk, HO, HBq⟩ := hrel
        by_cases hlt2 : k < ss.length
        · obtain ⟨ad, rfl, hx0, hx1, hx2⟩ := at_T23 HC2.out k (by omega) (by omega)
          rw [Int.toNat_natCast] at hx0 hx1 hx2
          rw [rd_keys ss k hlt2] at hx0 hx1 hx2
          have hS := List.take_succ_eq_append_getElem hlt2
          generalize ss[k] = x at hx0 hx1 hx2 hS
          have HS := Aside0.mk hS
          replace hx0 := (HBq.out.cell (World.block_lt_of_cell? w2 _ hx0)).trans hx0
          replace hx1 := (HBq.out.cell (World.block_lt_of_cell? w2 _ hx1)).trans hx1
          replace hx2 := (HBq.out.cell (World.block_lt_of_cell? w2 _ hx2)).trans hx2
          clear hS
          simp only [s23] at hx0 hx1 hx2
          go_wp2_with fail
          have hz : (wr.alloc (.cells #[.int .i64 x.1.1, .int .i64 x.1.2.1, .int .i64 x.1.2.2] 23)).heap.size = wr.heap.size + 1 := by simp
          have HZ := Aside0.mk hz
          have hbx := blk_new wr (.cells #[.int .i64 x.1.1, .int .i64 x.1.2.1, .int .i64 x.1.2.2] 23)
          have HMd := Aside0.mk ((HM2.out.below HBq.out).alloc (.cells #[.int .i64 x.1.1, .int .i64 x.1.2.1, .int .i64 x.1.2.2] 23))
          have HOd := Aside0.mk (Kd.R_alloc HO.out (.cells #[.int .i64 x.1.1, .int .i64 x.1.2.1, .int .i64 x.1.2.2] 23))
          have HBd := Aside0.mk (below_alloc HBq.out (.cells #[.int .i64 x.1.1, .int .i64 x.1.2.1, .int .i64 x.1.2.2] 23))
          have HX := Aside0.mk hbx
          clear hbx hz hx0 hx1 hx2
          generalize World.alloc wr _ = wd at *
          refine start_ (n := 9) (S := fun W => Below wd.heap.size wd W) (ds := [7]) #[false, false, false, false, false, false, false, false, false] (by kernel_rfl) rfl rfl (below_drew (Below.refl _ _)) (fun hHeld => ?_)
          refine pure_ (i := 0) (N := some 31) (v := ?_) (a' := ?_) #[true, false, false, false, false, false, false, false, false] rfl rfl (by kernel_rfl) (fun _ _ _ h => h) (Or.inl ⟨by rfl, ?_⟩) ?_ ?_
          rotate_left
          · intro w'
            go_simp
            with_reducible rfl
          rotate_left
          · simp only [Act.put, List.setIfInBounds_toArray, List.set_cons_zero, List.set_cons_succ, i64_w, i32_w]
            rfl
          refine pure_ (i := 2) (N := some 33) (v := ?_) (a' := ?_) #[true, false, true, false, false, false, false, false, false] rfl rfl (by kernel_rfl) (fun _ _ _ h => h) (Or.inl ⟨by rfl, ?_⟩) ?_ ?_
          rotate_left
          · intro w'
            go_simp
            with_reducible rfl
          rotate_left
          · simp only [Act.put, List.setIfInBounds_toArray, List.set_cons_zero, List.set_cons_succ, i64_w, i32_w]
            rfl
          refine take_ (i := 1) (N := some 32) (v := ?_) (a' := ?_) #[true, true, true, false, false, false, false, false, false] rfl rfl (by kernel_rfl) (fun _ _ _ h => h) (Or.inl ⟨by rfl, ?_⟩) hHeld ?_ ?_
          rotate_left
          · rintro w' hS
            have hy := blk_below HX.out hS
            have hy0 := (blk_cell hy 0).trans (show _ = some (Value.int .i64 x.1.1) from rfl)
            have hy1 := (blk_cell hy 1).trans (show _ = some (Value.int .i64 x.1.2.1) from rfl)
            have hy2 := (blk_cell hy 2).trans (show _ = some (Value.int .i64 x.1.2.2) from rfl)
            clear hy
            go_simp
            with_reducible rfl
          rotate_left
          · simp only [Act.put, List.setIfInBounds_toArray, List.set_cons_zero, List.set_cons_succ, i64_w, i32_w]
            rfl
          refine take_ (i := 3) (N := some 34) (v := ?_) (a' := ?_) #[true, true, true, true, false, false, false, false, false] rfl rfl (by kernel_rfl) (fun _ _ _ h => h) (Or.inl ⟨by rfl, ?_⟩) hHeld ?_ ?_
          rotate_left
          · rintro w' hS
            have hy := blk_below HX.out hS
            have hy0 := (blk_cell hy 0).trans (show _ = some (Value.int .i64 x.1.1) from rfl)
            have hy1 := (blk_cell hy 1).trans (show _ = some (Value.int .i64 x.1.2.1) from rfl)
            have hy2 := (blk_cell hy 2).trans (show _ = some (Value.int .i64 x.1.2.2) from rfl)
            clear hy
            go_simp
            with_reducible rfl
          rotate_left
          · simp only [Act.put, List.setIfInBounds_toArray, List.set_cons_zero, List.set_cons_succ, i64_w, i32_w]
            rfl
          refine take_ (i := 4) (N := some 35) (v := ?_) (a' := ?_) #[true, true, true, true, true, false, false, false, false] rfl rfl (by kernel_rfl) (fun _ _ _ h => h) (Or.inl ⟨by rfl, ?_⟩) hHeld ?_ ?_
          rotate_left
          · rintro w' hS
            have hlk := lookupK (HMd.out.below hS) x
            go_simp
            with_reducible rfl
          rotate_left
          · simp only [Act.put, List.setIfInBounds_toArray, List.set_cons_zero, List.set_cons_succ, i64_w, i32_w]
            rfl
          refine pure_ (i := 5) (N := some 36) (v := ?_) (a' := ?_) #[true, true, true, true, true, true, false, false, false] rfl rfl (by kernel_rfl) (fun _ _ _ h => h) (Or.inl ⟨by rfl, ?_⟩) ?_ ?_
          rotate_left
          · intro w'
            go_simp
            with_reducible rfl
          rotate_left
          · simp only [Act.put, List.setIfInBounds_toArray, List.set_cons_zero, List.set_cons_succ, i64_w, i32_w]
            rfl
          refine one_ (i := 6) (N := some 37) #[true, true, true, true, true, true, true, false, false] rfl rfl (by kernel_rfl) (by decide) (fun K hK => ?_)
          refine value_ (w1 := ?_) (v := ?_) (by rfl) rfl ?_ ?_
          rotate_left 2
          · go_simp
            constructor
            · rfl
            · rfl
          refine hK.out _ _ (below_alloc hHeld _) (fun hHeld => ?_)
          clear hK K
          refine norm_ (a' := ?_) ?_ ?_
          rotate_left
          · show Act.put _ (some 37) _ = _
            simp only [Act.put, List.setIfInBounds_toArray, List.set_cons_zero, List.set_cons_succ, i64_w, i32_w]
            rfl
          have HT := Aside0.mk (one_T (x := taK l x) (blk_drew (blk_new wd (.cells #[.int .i64 x.1.1, .int .i64 x.1.2.1, .int .i64 x.1.2.2, .int .i64 (l.countP (isK x) : Int)] 48))))
          have HOe := Aside0.mk (Kd.R_drewN (Kd.R_alloc HOd.out (.cells #[.int .i64 x.1.1, .int .i64 x.1.2.1, .int .i64 x.1.2.2, .int .i64 (l.countP (isK x) : Int)] 48)) 1)
          have HBe := Aside0.mk (below_drew (below_alloc HBd.out (.cells #[.int .i64 x.1.1, .int .i64 x.1.2.1, .int .i64 x.1.2.2, .int .i64 (l.countP (isK x) : Int)] 48)))
          refine last_ (i := 7) (N := some 38) #[true, true, true, true, true, true, true, true, false] rfl rfl (by kernel_rfl) (by decide) (fun K hK => ?_)
          refine Kd.R_append_rows_step kT (Rr := fun y cs => cs = cellsT y) (w0 := w2) w2.heap.size (by rfl) (.tmp 31) (.tmp 37) 43 48 (.agg #[.int .i64 0, .int .i64 0, .int .i64 0, .int .i64 0]) 32 rfl Tryd.underlying43 info48 rfl (by decide) (by decide) _ _ [taK l x] (some ⟨wd.heap.size, 0, none⟩) 1 1 (fun _ => True) (fun _ => False) (by rfl) (by rfl) HOe.out HT.out (fun y cs h => by rw [h]; exact kT_mkM _ _ _ _) (fun _ h => h.elim) (fun _ _ => trivial) HBe.out (HBe.out).size (by have := List.length_take_le k ss; rw [List.length_map]; omega) ?_
          intro v1 w5 ho5 hb5 hg5 hat5
          have HO5 := Aside0.mk ho5
          have HB5 := Aside0.mk hb5
          clear ho5 hb5 hg5 hat5
          refine hK.out _ _ ?_
          clear hK K
          refine norm_ (a' := ?_) ?_ ?_
          rotate_left
          · show Act.put _ (some 38) _ = _
            simp only [Act.put, List.setIfInBounds_toArray, List.set_cons_zero, List.set_cons_succ, i64_w, i32_w]
            rfl
          refine pure_ (i := 8) (N := some 6) (v := ?_) (a' := ?_) #[true, true, true, true, true, true, true, true, true] rfl rfl (by kernel_rfl) (fun _ _ _ h => h) (Or.inl ⟨by rfl, ?_⟩) ?_ ?_
          rotate_left
          · intro w'
            go_simp
            with_reducible rfl
          rotate_left
          · simp only [Act.put, List.setIfInBounds_toArray, List.set_cons_zero, List.set_cons_succ, i64_w, i32_w]
            rfl
          refine done_ (by kernel_rfl) ?_
          go_wp2
          go_roundw
          case rel => exact ⟨k + 1, by go_num, by omega, ⟨by rw [HS.out, List.map_append]; exact HO5.out⟩, HB5⟩
          case measure => simp [intOf]; omega
        · have e : ss.take k = ss := List.take_of_length_le (by omega)
          rw [e] at HO
          clear e
          go_wp2
          go_ret
          refine ⟨_, ss, rfl, HK.out, Kd.R_lower HO.out HB2.out.size, below_step HB2.out HBq.out⟩
end Go.Proofs.YtcpikafmclfcfaaDoor.Vn
end
section
namespace Go.Proofs.YtcpikafmclfcfaaDoor.Vn
open Go.RowKit Go.Maps Go.Proofs.YtcpikafmclfcfaaDoorW.PrintWords Go.Proofs.YtcpikafmclfcfaaDoorW.PrintLast Go.Proofs.YtcpikafmclfcfaaDoorW.PrintMore Go.Proofs.YtcpikafmclfcfaaDoor.PV Go.Proofs.YtcpikafmclfcfaaDoor.Vl Go.Proofs.YtcpikafmclfcfaaDoor.Mp Go.Proofs.YtcpikafmclfcfaaDoor.Tl
set_option linter.unusedVariables false
set_option linter.unusedSimpArgs false
theorem info49 : (Tryd.prog.info? 49).map (fun i => (i.zero, i.size, i.bytes)) = some (some (.agg #[.int .i64 0, .int .i64 0, .int .i64 0, .int .i64 0]), 4, 32) := by kernel_rfl
theorem rowC {w : World} {A : Option Addr} {n : Nat} {xs : List Ta} (h : Kd.C kT w A n xs) : ReadsRow (fun y cs => cs = cellsT y) 4 w A n xs :=
  ⟨h.1, h.2.1, fun hn => by
    obtain ⟨ad, e, h2⟩ := h.2.2 hn
    exact ⟨ad, e, fun j p hj => by
      obtain ⟨c, hl, hK, hc⟩ := h2 j p hj
      exact ⟨c, hl, kT_open hK, hc⟩⟩⟩
theorem ne_ifs {α : Type} (p x : V3) (h : p ≠ x) (t f : α) : (if p.1.1 = x.1.1 then (if p.1.2.1 = x.1.2.1 then (if p.1.2.2 = x.1.2.2 then t else f) else f) else f) = f := by
  by_cases a : p.1.1 = x.1.1
  · by_cases b : p.1.2.1 = x.1.2.1
    · by_cases c : p.1.2.2 = x.1.2.2
      · exact absurd (Subtype.ext (Prod.ext a (Prod.ext b c))) h
      · rw [if_pos a, if_pos b, if_neg c]
    · rw [if_pos a, if_neg b]
  · rw [if_neg a]
set_option maxHeartbeats 40000000 in
set_option maxRecDepth 100000 in
theorem rcount_calls (A : Option Addr) (c : Nat) (ks : List V3) (w : World) (hr : Kd.C k23 w A ks.length (ks.map s23)) (hl : ks.length ≤ 500) :
    Calls Tryd.prog 30 #[.slice A ks.length c] w fun e w' => ∃ v, e = .returned v ∧ kT.R 49 w' w.heap.size (fun _ => True) v (oT (tally ltv ks)) ∧ Below w.heap.size w w' := by
  have HR := Aside0.mk hr
  have hu23 := Tryd.underlying23
  clear hr
  go_enter Tryd.func30, Tryd.ntmps30
  go_wp2_with fail
  go_loopw [3, 4] (fun v3 v4 wr => ∃ i : Nat, v4 = .int .i64 i ∧ i ≤ ks.length ∧ Aside0 (kT.R 49 wr w.heap.size (fun _ => True) v3 (oT (tally ltv (ks.take i)))) ∧ Aside0 (Below w.heap.size w wr)) (fun _ v4 _ => ks.length - (intOf v4).toNat)
  case atStart => exact ⟨0, rfl, Nat.zero_le _, ⟨by rw [List.take_zero]; exact Kd.R_nil _ _ _ _ _⟩, ⟨Below.refl _ _⟩⟩
  case round =>
    obtain ⟨i, rfl, hi, HO, HB⟩ := hrel
    by_cases hlt : i < ks.length
    · have HS : Aside0 (tally ltv (ks.take (i + 1)) = tins ltv ks[i] (tally ltv (ks.take i))) := ⟨by rw [List.take_succ_eq_append_getElem hlt, tally_snoc]⟩
      have HLN : Aside0 ((tally ltv (ks.take i)).length ≤ 500) := ⟨by have := tally_len (ks.take i); rw [List.length_take] at this; omega⟩
      have HNN : Aside0 (∀ x ∈ tally ltv (ks.take i), x.2 ≤ 500) := ⟨fun x hx => by have := tally_num (ks.take i) x hx; rw [List.length_take] at this; omega⟩
      obtain ⟨ad, rfl, hx0, hx1, hx2⟩ := at_T23 HR.out i (by omega) (by omega)
      rw [Int.toNat_natCast] at hx0 hx1 hx2
      rw [rd_keys ks i hlt] at hx0 hx1 hx2
      generalize ks[i] = x at hx0 hx1 hx2 HS
      generalize tally ltv (ks.take i) = o at HO HS HLN HNN
      have HX := Aside0.mk (And.intro hx0 (And.intro hx1 hx2))
      clear hx0 hx1 hx2
      obtain ⟨wo, rfl⟩ : ∃ wo : World, wo = wr := ⟨_, rfl⟩
      obtain ⟨A3, c3, e3⟩ := Kd.R_slice HO.out
      rw [oT_len] at e3
      subst e3
      have hol := HLN.out
      go_wp2_with fail
      go_loopw [5] (fun v5 wq => ∃ k : Nat, v5 = .int .i64 k ∧ k ≤ o.length ∧ Aside0 (∀ z ∈ o.take k, ltv z.1 x = true) ∧ Aside0 (kT.R 49 wq w.heap.size (fun _ => True) (.slice A3 o.length c3) (oT o)) ∧ Aside0 (Below w.heap.size w wq)) (fun v5 _ => o.length - (intOf v5).toNat)
      case atStart => exact ⟨0, rfl, Nat.zero_le _, ⟨fun z hz => by simp at hz⟩, HO, HB⟩
      case round =>
        clear HO HB
        obtain ⟨k, rfl, hk, HP, HO, HB⟩ := hrel
        have hcc : o.length ≤ c3 := by have := (Kd.R_reads' HO.out).2.1; exact this
        by_cases hlt2 : k < o.length
        · obtain ⟨g, c', e', hg, hgl, hcell⟩ := row_T HO.out (by rw [oT_len]; omega)
          injection e' with e1 e2 e3
          subst e1
          obtain ⟨y0, y1, y2, y3, yf⟩ := hcell k (by rw [oT_len]; exact hlt2)
          have hgp : (oT o)[k]'(by rw [oT_len]; exact hlt2) = taT o[k] := List.getElem_map ..
          have hpo := Aside0.mk (Eq.refl o[k])
          obtain ⟨p, hp⟩ : ∃ p, o[k] = p := ⟨_, rfl⟩
          rw [hp] at hgp
          rw [hgp] at y0 y1 y2 y3
          have hgp' := Aside0.mk hgp
          have HPP := Aside0.mk hp
          simp only [taT] at y0 y1 y2 y3
          have HY := Aside0.mk (And.intro y0 (And.intro y1 (And.intro y2 (And.intro y3 yf))))
          have d1 : decide ((k : Int) < (o.length : Int)) = true := decide_eq_true (by omega)
          have d2 : decide (k < o.length) = true := decide_eq_true hlt2
          clear y0 y1 y2 y3 yf hcell hp hgp hpo e2 e3
          cases hb0 : ltv p.1 x
          · have hb := hb0
            have HBB := Aside0.mk hb
            clear hb0
            go_wp2_with fail
            obtain ⟨wd, hwd⟩ : ∃ wd : World, wd = wr := ⟨_, rfl⟩
            subst hwd
            have HXq := Aside0.mk (And.intro ((HB.out.cell (World.block_lt_of_cell? w _ HX.out.1)).trans HX.out.1) (And.intro ((HB.out.cell (World.block_lt_of_cell? w _ HX.out.2.1)).trans HX.out.2.1) ((HB.out.cell (World.block_lt_of_cell? w _ HX.out.2.2)).trans HX.out.2.2)))
            refine start_ (n := 16) (S := fun W => Below wd.heap.size wd W) (ds := []) #[false, false, false, false, false, false, false, false, false, false, false, false, false, false, false, false] (by kernel_rfl) rfl rfl (below_drew (Below.refl _ _)) (fun hHeld => ?_)
            refine pure_ (i := 0) (N := some 12) (v := ?_) (a' := ?_) #[true, false, false, false, false, false, false, false, false, false, false, false, false, false, false, false] rfl rfl (by kernel_rfl) (fun _ _ _ h => h) (Or.inl ⟨by rfl, ?_⟩) ?_ ?_
            rotate_left
            · intro w'
              go_simp
              with_reducible rfl
            rotate_left
            · simp only [Act.put, List.setIfInBounds_toArray, List.set_cons_zero, List.set_cons_succ, i64_w, i32_w]
              rfl
            refine pure_ (i := 1) (N := some 13) (v := ?_) (a' := ?_) #[true, true, false, false, false, false, false, false, false, false, false, false, false, false, false, false] rfl rfl (by kernel_rfl) (fun _ _ _ h => h) (Or.inl ⟨by rfl, ?_⟩) ?_ ?_
            rotate_left
            · intro w'
              go_simp
              with_reducible rfl
            rotate_left
            · simp only [Act.put, List.setIfInBounds_toArray, List.set_cons_zero, List.set_cons_succ, i64_w, i32_w]
              rfl
            refine pure_ (i := 2) (N := some 14) (v := ?_) (a' := ?_) #[true, true, true, false, false, false, false, false, false, false, false, false, false, false, false, false] rfl rfl (by kernel_rfl) (fun _ _ _ h => h) (Or.inl ⟨by rfl, ?_⟩) ?_ ?_
            rotate_left
            · intro w'
              go_simp
              with_reducible rfl
            rotate_left
            · simp only [Act.put, List.setIfInBounds_toArray, List.set_cons_zero, List.set_cons_succ, i64_w, i32_w]
              rfl
            refine pure_ (i := 3) (N := some 15) (v := ?_) (a' := ?_) #[true, true, true, true, false, false, false, false, false, false, false, false, false, false, false, false] rfl rfl (by kernel_rfl) (fun _ _ _ h => h) (Or.inl ⟨by rfl, ?_⟩) ?_ ?_
            rotate_left
            · intro w'
              go_simp
              with_reducible rfl
            rotate_left
            · simp only [Act.put, List.setIfInBounds_toArray, List.set_cons_zero, List.set_cons_succ, i64_w, i32_w]
              rfl
            refine pure_ (i := 4) (N := some 16) (v := ?_) (a' := ?_) #[true, true, true, true, true, false, false, false, false, false, false, false, false, false, false, false] rfl rfl (by kernel_rfl) (fun _ _ _ h => h) (Or.inl ⟨by rfl, ?_⟩) ?_ ?_
            rotate_left
            · intro w'
              go_simp
              with_reducible rfl
            rotate_left
            · simp only [Act.put, List.setIfInBounds_toArray, List.set_cons_zero, List.set_cons_succ, i64_w, i32_w]
              rfl
            refine pure_ (i := 5) (N := some 17) (v := ?_) (a' := ?_) #[true, true, true, true, true, true, false, false, false, false, false, false, false, false, false, false] rfl rfl (by kernel_rfl) (fun _ _ _ h => h) (Or.inl ⟨by rfl, ?_⟩) ?_ ?_
            rotate_left
            · intro w'
              go_simp
              with_reducible rfl
            rotate_left
            · simp only [Act.put, List.setIfInBounds_toArray, List.set_cons_zero, List.set_cons_succ, i64_w, i32_w]
              rfl
            refine pure_ (i := 6) (N := some 18) (v := ?_) (a' := ?_) #[true, true, true, true, true, true, true, false, false, false, false, false, false, false, false, false] rfl rfl (by kernel_rfl) (fun _ _ _ h => h) (Or.inl ⟨by rfl, ?_⟩) ?_ ?_
            rotate_left
            · intro w'
              go_simp
              with_reducible rfl
            rotate_left
            · simp only [Act.put, List.setIfInBounds_toArray, List.set_cons_zero, List.set_cons_succ, i64_w, i32_w]
              rfl
            refine pure_ (i := 7) (N := some 19) (v := ?_) (a' := ?_) #[true, true, true, true, true, true, true, true, false, false, false, false, false, false, false, false] rfl rfl (by kernel_rfl) (fun _ _ _ h => h) (Or.inl ⟨by rfl, ?_⟩) ?_ ?_
            rotate_left
            · intro w'
              go_simp
              with_reducible rfl
            rotate_left
            · simp only [Act.put, List.setIfInBounds_toArray, List.set_cons_zero, List.set_cons_succ, i64_w, i32_w]
              rfl
            refine pure_ (i := 8) (N := some 20) (v := ?_) (a' := ?_) #[true, true, true, true, true, true, true, true, true, false, false, false, false, false, false, false] rfl rfl (by kernel_rfl) (fun _ _ _ h => h) (Or.inl ⟨by rfl, ?_⟩) ?_ ?_
            rotate_left
            · intro w'
              go_simp
              with_reducible rfl
            rotate_left
            · simp only [Act.put, List.setIfInBounds_toArray, List.set_cons_zero, List.set_cons_succ, i64_w, i32_w]
              rfl
            refine take_ (i := 9) (N := some 21) (v := ?_) (a' := ?_) #[true, true, true, true, true, true, true, true, true, true, false, false, false, false, false, false] rfl rfl (by kernel_rfl) (fun _ _ _ h => h) (Or.inl ⟨by rfl, ?_⟩) hHeld ?_ ?_
            rotate_left
            · rintro w' hS
              have hq0 := (hS.cell (World.block_lt_of_cell? _ _ HY.out.1)).trans HY.out.1
              have hq1 := (hS.cell (World.block_lt_of_cell? _ _ HY.out.2.1)).trans HY.out.2.1
              have hq2 := (hS.cell (World.block_lt_of_cell? _ _ HY.out.2.2.1)).trans HY.out.2.2.1
              go_simp
              with_reducible rfl
            rotate_left
            · simp only [Act.put, List.setIfInBounds_toArray, List.set_cons_zero, List.set_cons_succ, i64_w, i32_w]
              rfl
            refine pure_ (i := 10) (N := some 22) (v := ?_) (a' := ?_) #[true, true, true, true, true, true, true, true, true, true, true, false, false, false, false, false] rfl rfl (by kernel_rfl) (fun _ _ _ h => h) (Or.inl ⟨by rfl, ?_⟩) ?_ ?_
            rotate_left
            · intro w'
              go_simp
              with_reducible rfl
            rotate_left
            · simp only [Act.put, List.setIfInBounds_toArray, List.set_cons_zero, List.set_cons_succ, i64_w, i32_w]
              rfl
            refine pure_ (i := 11) (N := some 23) (v := ?_) (a' := ?_) #[true, true, true, true, true, true, true, true, true, true, true, true, false, false, false, false] rfl rfl (by kernel_rfl) (fun _ _ _ h => h) (Or.inl ⟨by rfl, ?_⟩) ?_ ?_
            rotate_left
            · intro w'
              go_simp
              with_reducible rfl
            rotate_left
            · simp only [Act.put, List.setIfInBounds_toArray, List.set_cons_zero, List.set_cons_succ, i64_w, i32_w]
              rfl
            refine pure_ (i := 12) (N := some 24) (v := ?_) (a' := ?_) #[true, true, true, true, true, true, true, true, true, true, true, true, true, false, false, false] rfl rfl (by kernel_rfl) (fun _ _ _ h => h) (Or.inl ⟨by rfl, ?_⟩) ?_ ?_
            rotate_left
            · intro w'
              go_simp
              with_reducible rfl
            rotate_left
            · simp only [Act.put, List.setIfInBounds_toArray, List.set_cons_zero, List.set_cons_succ, i64_w, i32_w]
              rfl
            refine take_ (i := 13) (N := some 25) (v := ?_) (a' := ?_) #[true, true, true, true, true, true, true, true, true, true, true, true, true, true, false, false] rfl rfl (by kernel_rfl) (fun _ _ _ h => h) (Or.inl ⟨by rfl, ?_⟩) hHeld ?_ ?_
            rotate_left
            · rintro w' hS
              have hq0 := (hS.cell (World.block_lt_of_cell? _ _ HXq.out.1)).trans HXq.out.1
              have hq1 := (hS.cell (World.block_lt_of_cell? _ _ HXq.out.2.1)).trans HXq.out.2.1
              have hq2 := (hS.cell (World.block_lt_of_cell? _ _ HXq.out.2.2)).trans HXq.out.2.2
              simp only [s23] at hq0 hq1 hq2
              go_simp
              with_reducible rfl
            rotate_left
            · simp only [Act.put, List.setIfInBounds_toArray, List.set_cons_zero, List.set_cons_succ, i64_w, i32_w]
              rfl
            refine one_ (i := 14) (N := some 26) #[true, true, true, true, true, true, true, true, true, true, true, true, true, true, true, false] rfl rfl (by kernel_rfl) (by decide) (fun K hK => ?_)
            refine goes_ Tryd.func22 (by kernel_rfl) rfl #[.agg #[.int .i64 p.1.1.1, .int .i64 p.1.1.2.1, .int .i64 p.1.1.2.2], .agg #[.int .i64 x.1.1, .int .i64 x.1.2.1, .int .i64 x.1.2.2]] (by rfl) rfl rfl (by (try simp only [List.map_toArray, List.map_cons, List.map_nil]); first | done | rfl) ?_
            refine (rless_calls p.1 x false hb _).mono ?_
            rintro e w6 ⟨rfl, hb6⟩
            have hs6 := below_then hHeld (by simp) hb6
            refine ⟨_, rfl, ?_⟩
            refine hK.out _ _ hs6 (fun _ => ?_)
            clear hK K
            refine norm_ (a' := ?_) ?_ ?_
            rotate_left
            · show Act.put _ (some 26) _ = _
              simp only [Act.put, List.setIfInBounds_toArray, List.set_cons_zero, List.set_cons_succ, i64_w, i32_w]
              rfl
            refine pure_ (i := 15) (N := some 27) (v := ?_) (a' := ?_) #[true, true, true, true, true, true, true, true, true, true, true, true, true, true, true, true] rfl rfl (by kernel_rfl) (fun _ _ _ h => h) (Or.inl ⟨by rfl, ?_⟩) ?_ ?_
            rotate_left
            · intro w'
              go_simp
              with_reducible rfl
            rotate_left
            · simp only [Act.put, List.setIfInBounds_toArray, List.set_cons_zero, List.set_cons_succ, i64_w, i32_w]
              rfl
            refine done_ (by kernel_rfl) ?_
            have HO6 := Aside0.mk (Kd.R_below HO.out hs6)
            have HB6 := Aside0.mk (below_then HB.out HB.out.size hs6)
            clear hs6 hb6 HO HB HXq hHeld
            clear hb
            by_cases hpx : p.1 = x
            · go_wp2_with fail
              have HXq := Aside0.mk (And.intro ((HB6.out.cell (World.block_lt_of_cell? w _ HX.out.1)).trans HX.out.1) (And.intro ((HB6.out.cell (World.block_lt_of_cell? w _ HX.out.2.1)).trans HX.out.2.1) ((HB6.out.cell (World.block_lt_of_cell? w _ HX.out.2.2)).trans HX.out.2.2)))
              obtain ⟨g', c', e', hg', hgl', hcell'⟩ := row_T HO6.out (by rw [oT_len]; omega)
              obtain rfl : g = g' := by injection e' with e1; injection e1 with e1; injection e1 with e1
              obtain ⟨z0, z1, z2, z3, zf⟩ := hcell' k (by rw [oT_len]; exact hlt2)
              rw [hgp'.out] at z0 z1 z2 z3
              simp only [taT] at z0 z1 z2 z3
              have HY := Aside0.mk (And.intro z0 (And.intro z1 (And.intro z2 (And.intro z3 zf))))
              clear z0 z1 z2 z3 zf hcell' e'
              refine start_ (n := 16) (S := fun W => Below w6.heap.size w6 W) (ds := []) #[false, false, false, false, false, false, false, false, false, false, false, false, false, false, false, false] (by kernel_rfl) rfl rfl (below_drew (Below.refl _ _)) (fun hHeld => ?_)
              refine pure_ (i := 0) (N := some 30) (v := ?_) (a' := ?_) #[true, false, false, false, false, false, false, false, false, false, false, false, false, false, false, false] rfl rfl (by kernel_rfl) (fun _ _ _ h => h) (Or.inl ⟨by rfl, ?_⟩) ?_ ?_
              rotate_left
              · intro w'
                go_simp
                with_reducible rfl
              rotate_left
              · simp only [Act.put, List.setIfInBounds_toArray, List.set_cons_zero, List.set_cons_succ, i64_w, i32_w]
                rfl
              refine pure_ (i := 1) (N := some 31) (v := ?_) (a' := ?_) #[true, true, false, false, false, false, false, false, false, false, false, false, false, false, false, false] rfl rfl (by kernel_rfl) (fun _ _ _ h => h) (Or.inl ⟨by rfl, ?_⟩) ?_ ?_
              rotate_left
              · intro w'
                go_simp
                with_reducible rfl
              rotate_left
              · simp only [Act.put, List.setIfInBounds_toArray, List.set_cons_zero, List.set_cons_succ, i64_w, i32_w]
                rfl
              refine pure_ (i := 2) (N := some 32) (v := ?_) (a' := ?_) #[true, true, true, false, false, false, false, false, false, false, false, false, false, false, false, false] rfl rfl (by kernel_rfl) (fun _ _ _ h => h) (Or.inl ⟨by rfl, ?_⟩) ?_ ?_
              rotate_left
              · intro w'
                go_simp
                with_reducible rfl
              rotate_left
              · simp only [Act.put, List.setIfInBounds_toArray, List.set_cons_zero, List.set_cons_succ, i64_w, i32_w]
                rfl
              refine pure_ (i := 3) (N := some 33) (v := ?_) (a' := ?_) #[true, true, true, true, false, false, false, false, false, false, false, false, false, false, false, false] rfl rfl (by kernel_rfl) (fun _ _ _ h => h) (Or.inl ⟨by rfl, ?_⟩) ?_ ?_
              rotate_left
              · intro w'
                go_simp
                with_reducible rfl
              rotate_left
              · simp only [Act.put, List.setIfInBounds_toArray, List.set_cons_zero, List.set_cons_succ, i64_w, i32_w]
                rfl
              refine pure_ (i := 4) (N := some 34) (v := ?_) (a' := ?_) #[true, true, true, true, true, false, false, false, false, false, false, false, false, false, false, false] rfl rfl (by kernel_rfl) (fun _ _ _ h => h) (Or.inl ⟨by rfl, ?_⟩) ?_ ?_
              rotate_left
              · intro w'
                go_simp
                with_reducible rfl
              rotate_left
              · simp only [Act.put, List.setIfInBounds_toArray, List.set_cons_zero, List.set_cons_succ, i64_w, i32_w]
                rfl
              refine pure_ (i := 5) (N := some 35) (v := ?_) (a' := ?_) #[true, true, true, true, true, true, false, false, false, false, false, false, false, false, false, false] rfl rfl (by kernel_rfl) (fun _ _ _ h => h) (Or.inl ⟨by rfl, ?_⟩) ?_ ?_
              rotate_left
              · intro w'
                go_simp
                with_reducible rfl
              rotate_left
              · simp only [Act.put, List.setIfInBounds_toArray, List.set_cons_zero, List.set_cons_succ, i64_w, i32_w]
                rfl
              refine pure_ (i := 6) (N := some 36) (v := ?_) (a' := ?_) #[true, true, true, true, true, true, true, false, false, false, false, false, false, false, false, false] rfl rfl (by kernel_rfl) (fun _ _ _ h => h) (Or.inl ⟨by rfl, ?_⟩) ?_ ?_
              rotate_left
              · intro w'
                go_simp
                with_reducible rfl
              rotate_left
              · simp only [Act.put, List.setIfInBounds_toArray, List.set_cons_zero, List.set_cons_succ, i64_w, i32_w]
                rfl
              refine pure_ (i := 7) (N := some 37) (v := ?_) (a' := ?_) #[true, true, true, true, true, true, true, true, false, false, false, false, false, false, false, false] rfl rfl (by kernel_rfl) (fun _ _ _ h => h) (Or.inl ⟨by rfl, ?_⟩) ?_ ?_
              rotate_left
              · intro w'
                go_simp
                with_reducible rfl
              rotate_left
              · simp only [Act.put, List.setIfInBounds_toArray, List.set_cons_zero, List.set_cons_succ, i64_w, i32_w]
                rfl
              refine pure_ (i := 8) (N := some 38) (v := ?_) (a' := ?_) #[true, true, true, true, true, true, true, true, true, false, false, false, false, false, false, false] rfl rfl (by kernel_rfl) (fun _ _ _ h => h) (Or.inl ⟨by rfl, ?_⟩) ?_ ?_
              rotate_left
              · intro w'
                go_simp
                with_reducible rfl
              rotate_left
              · simp only [Act.put, List.setIfInBounds_toArray, List.set_cons_zero, List.set_cons_succ, i64_w, i32_w]
                rfl
              refine take_ (i := 9) (N := some 39) (v := ?_) (a' := ?_) #[true, true, true, true, true, true, true, true, true, true, false, false, false, false, false, false] rfl rfl (by kernel_rfl) (fun _ _ _ h => h) (Or.inl ⟨by rfl, ?_⟩) hHeld ?_ ?_
              rotate_left
              · rintro w' hS
                have hq0 := (hS.cell (World.block_lt_of_cell? _ _ HY.out.1)).trans HY.out.1
                have hq1 := (hS.cell (World.block_lt_of_cell? _ _ HY.out.2.1)).trans HY.out.2.1
                have hq2 := (hS.cell (World.block_lt_of_cell? _ _ HY.out.2.2.1)).trans HY.out.2.2.1
                go_simp
                with_reducible rfl
              rotate_left
              · simp only [Act.put, List.setIfInBounds_toArray, List.set_cons_zero, List.set_cons_succ, i64_w, i32_w]
                rfl
              refine pure_ (i := 10) (N := some 40) (v := ?_) (a' := ?_) #[true, true, true, true, true, true, true, true, true, true, true, false, false, false, false, false] rfl rfl (by kernel_rfl) (fun _ _ _ h => h) (Or.inl ⟨by rfl, ?_⟩) ?_ ?_
              rotate_left
              · intro w'
                go_simp
                with_reducible rfl
              rotate_left
              · simp only [Act.put, List.setIfInBounds_toArray, List.set_cons_zero, List.set_cons_succ, i64_w, i32_w]
                rfl
              refine pure_ (i := 11) (N := some 41) (v := ?_) (a' := ?_) #[true, true, true, true, true, true, true, true, true, true, true, true, false, false, false, false] rfl rfl (by kernel_rfl) (fun _ _ _ h => h) (Or.inl ⟨by rfl, ?_⟩) ?_ ?_
              rotate_left
              · intro w'
                go_simp
                with_reducible rfl
              rotate_left
              · simp only [Act.put, List.setIfInBounds_toArray, List.set_cons_zero, List.set_cons_succ, i64_w, i32_w]
                rfl
              refine pure_ (i := 12) (N := some 42) (v := ?_) (a' := ?_) #[true, true, true, true, true, true, true, true, true, true, true, true, true, false, false, false] rfl rfl (by kernel_rfl) (fun _ _ _ h => h) (Or.inl ⟨by rfl, ?_⟩) ?_ ?_
              rotate_left
              · intro w'
                go_simp
                with_reducible rfl
              rotate_left
              · simp only [Act.put, List.setIfInBounds_toArray, List.set_cons_zero, List.set_cons_succ, i64_w, i32_w]
                rfl
              refine take_ (i := 13) (N := some 43) (v := ?_) (a' := ?_) #[true, true, true, true, true, true, true, true, true, true, true, true, true, true, false, false] rfl rfl (by kernel_rfl) (fun _ _ _ h => h) (Or.inl ⟨by rfl, ?_⟩) hHeld ?_ ?_
              rotate_left
              · rintro w' hS
                have hq0 := (hS.cell (World.block_lt_of_cell? _ _ HXq.out.1)).trans HXq.out.1
                have hq1 := (hS.cell (World.block_lt_of_cell? _ _ HXq.out.2.1)).trans HXq.out.2.1
                have hq2 := (hS.cell (World.block_lt_of_cell? _ _ HXq.out.2.2)).trans HXq.out.2.2
                simp only [s23] at hq0 hq1 hq2
                go_simp
                with_reducible rfl
              rotate_left
              · simp only [Act.put, List.setIfInBounds_toArray, List.set_cons_zero, List.set_cons_succ, i64_w, i32_w]
                rfl
              refine pure_ (i := 14) (N := some 44) (v := ?_) (a' := ?_) #[true, true, true, true, true, true, true, true, true, true, true, true, true, true, true, false] rfl rfl (by kernel_rfl) (fun _ _ _ h => h) (Or.inl ⟨by rfl, ?_⟩) ?_ ?_
              rotate_left
              · intro w'
                go_simp
                with_reducible rfl
              rotate_left
              · simp only [Act.put, List.setIfInBounds_toArray, List.set_cons_zero, List.set_cons_succ, i64_w, i32_w]
                rfl
              refine pure_ (i := 15) (N := some 45) (v := ?_) (a' := ?_) #[true, true, true, true, true, true, true, true, true, true, true, true, true, true, true, true] rfl rfl (by kernel_rfl) (fun _ _ _ h => h) (Or.inl ⟨by rfl, ?_⟩) ?_ ?_
              rotate_left
              · intro w'
                go_simp
                with_reducible rfl
              rotate_left
              · simp only [Act.put, List.setIfInBounds_toArray, List.set_cons_zero, List.set_cons_succ, i64_w, i32_w]
                rfl
              refine done_ (by kernel_rfl) ?_
              have HPX := Aside0.mk hpx
              have HCL : Aside0 (∀ j u, (cellsT (taT p))[j]? = some u → w6.cell? ⟨g, (k : Int).toNat * kT.sz + j, none⟩ = some u) := ⟨fun j u hj => by
                rw [Int.toNat_natCast]
                rcases j with _ | _ | _ | _ | j
                · rw [← show Value.int .i64 p.1.1.1 = u by simpa [cellsT, taT] using hj]; exact HY.out.1
                · rw [← show Value.int .i64 p.1.1.2.1 = u by simpa [cellsT, taT] using hj]; exact HY.out.2.1
                · rw [← show Value.int .i64 p.1.1.2.2 = u by simpa [cellsT, taT] using hj]; exact HY.out.2.2.1
                · rw [← show Value.int .i64 (p.2 : Int) = u by simpa [cellsT, taT] using hj]; exact HY.out.2.2.2.1
                · simp [cellsT] at hj⟩
              clear hpx HXq hHeld
              have hy3 := HY.out.2.2.2.1
              have hyf := HY.out.2.2.2.2
              have hpn : p.2 ≤ 500 := HNN.out p (by rw [← HPP.out]; exact List.getElem_mem _)
              have hpn0 : (0 : Int) ≤ p.2 := by omega
              have hpn1 : (p.2 : Int) ≤ 500 := by omega
              have HSG := Aside0.mk (Kd.R_seg (j := 3) (seg := [.int .i64 ((p.2 : Int) + 1)]) (c := cellsT (taT p)) (x' := taT (x, p.2 + 1)) (okp := fun _ => False) HO6.out (k : Int) (by omega) (by omega) rfl HCL.out (by show 3 + 1 ≤ 4; decide) (by rw [← HPX.out]; exact kT_mkM _ _ _ (taT (p.1, p.2 + 1))) (fun _ h => h.elim))
              go_wp2
              go_roundw
              case rel =>
                refine ⟨i + 1, by go_num, by omega, ⟨?_⟩, ⟨?_⟩⟩
                · rw [HS.out, tins_hit x o k hlt2 HP.out (by rw [HPP.out]; exact HBB.out) (by rw [HPP.out]; exact HPX.out), HPP.out]
                  have h := (HSG.out).1
                  rw [Int.toNat_natCast] at h
                  have e : (oT o).set k (taT (x, p.2 + 1)) = oT (o.set k (x, p.2 + 1)) := by simp [oT, List.map_set]
                  rw [e] at h
                  exact Kd.R_drew h
                · exact below_drew (HB6.out.setCell hg _)
              case measure => simp [intOf]; omega
            · go_wp2_with fail
              have HXq := Aside0.mk (And.intro ((HB6.out.cell (World.block_lt_of_cell? w _ HX.out.1)).trans HX.out.1) (And.intro ((HB6.out.cell (World.block_lt_of_cell? w _ HX.out.2.1)).trans HX.out.2.1) ((HB6.out.cell (World.block_lt_of_cell? w _ HX.out.2.2)).trans HX.out.2.2)))
              obtain ⟨g', c', e', hg', hgl', hcell'⟩ := row_T HO6.out (by rw [oT_len]; omega)
              obtain rfl : g = g' := by injection e' with e1; injection e1 with e1; injection e1 with e1
              obtain ⟨z0, z1, z2, z3, zf⟩ := hcell' k (by rw [oT_len]; exact hlt2)
              rw [hgp'.out] at z0 z1 z2 z3
              simp only [taT] at z0 z1 z2 z3
              have HY := Aside0.mk (And.intro z0 (And.intro z1 (And.intro z2 (And.intro z3 zf))))
              clear z0 z1 z2 z3 zf hcell' e'
              refine start_ (n := 16) (S := fun W => Below w6.heap.size w6 W) (ds := []) #[false, false, false, false, false, false, false, false, false, false, false, false, false, false, false, false] (by kernel_rfl) rfl rfl (below_drew (Below.refl _ _)) (fun hHeld => ?_)
              refine pure_ (i := 0) (N := some 30) (v := ?_) (a' := ?_) #[true, false, false, false, false, false, false, false, false, false, false, false, false, false, false, false] rfl rfl (by kernel_rfl) (fun _ _ _ h => h) (Or.inl ⟨by rfl, ?_⟩) ?_ ?_
              rotate_left
              · intro w'
                go_simp
                with_reducible rfl
              rotate_left
              · simp only [Act.put, List.setIfInBounds_toArray, List.set_cons_zero, List.set_cons_succ, i64_w, i32_w]
                rfl
              refine pure_ (i := 1) (N := some 31) (v := ?_) (a' := ?_) #[true, true, false, false, false, false, false, false, false, false, false, false, false, false, false, false] rfl rfl (by kernel_rfl) (fun _ _ _ h => h) (Or.inl ⟨by rfl, ?_⟩) ?_ ?_
              rotate_left
              · intro w'
                go_simp
                with_reducible rfl
              rotate_left
              · simp only [Act.put, List.setIfInBounds_toArray, List.set_cons_zero, List.set_cons_succ, i64_w, i32_w]
                rfl
              refine pure_ (i := 2) (N := some 32) (v := ?_) (a' := ?_) #[true, true, true, false, false, false, false, false, false, false, false, false, false, false, false, false] rfl rfl (by kernel_rfl) (fun _ _ _ h => h) (Or.inl ⟨by rfl, ?_⟩) ?_ ?_
              rotate_left
              · intro w'
                go_simp
                with_reducible rfl
              rotate_left
              · simp only [Act.put, List.setIfInBounds_toArray, List.set_cons_zero, List.set_cons_succ, i64_w, i32_w]
                rfl
              refine pure_ (i := 3) (N := some 33) (v := ?_) (a' := ?_) #[true, true, true, true, false, false, false, false, false, false, false, false, false, false, false, false] rfl rfl (by kernel_rfl) (fun _ _ _ h => h) (Or.inl ⟨by rfl, ?_⟩) ?_ ?_
              rotate_left
              · intro w'
                go_simp
                with_reducible rfl
              rotate_left
              · simp only [Act.put, List.setIfInBounds_toArray, List.set_cons_zero, List.set_cons_succ, i64_w, i32_w]
                rfl
              refine pure_ (i := 4) (N := some 34) (v := ?_) (a' := ?_) #[true, true, true, true, true, false, false, false, false, false, false, false, false, false, false, false] rfl rfl (by kernel_rfl) (fun _ _ _ h => h) (Or.inl ⟨by rfl, ?_⟩) ?_ ?_
              rotate_left
              · intro w'
                go_simp
                with_reducible rfl
              rotate_left
              · simp only [Act.put, List.setIfInBounds_toArray, List.set_cons_zero, List.set_cons_succ, i64_w, i32_w]
                rfl
              refine pure_ (i := 5) (N := some 35) (v := ?_) (a' := ?_) #[true, true, true, true, true, true, false, false, false, false, false, false, false, false, false, false] rfl rfl (by kernel_rfl) (fun _ _ _ h => h) (Or.inl ⟨by rfl, ?_⟩) ?_ ?_
              rotate_left
              · intro w'
                go_simp
                with_reducible rfl
              rotate_left
              · simp only [Act.put, List.setIfInBounds_toArray, List.set_cons_zero, List.set_cons_succ, i64_w, i32_w]
                rfl
              refine pure_ (i := 6) (N := some 36) (v := ?_) (a' := ?_) #[true, true, true, true, true, true, true, false, false, false, false, false, false, false, false, false] rfl rfl (by kernel_rfl) (fun _ _ _ h => h) (Or.inl ⟨by rfl, ?_⟩) ?_ ?_
              rotate_left
              · intro w'
                go_simp
                with_reducible rfl
              rotate_left
              · simp only [Act.put, List.setIfInBounds_toArray, List.set_cons_zero, List.set_cons_succ, i64_w, i32_w]
                rfl
              refine pure_ (i := 7) (N := some 37) (v := ?_) (a' := ?_) #[true, true, true, true, true, true, true, true, false, false, false, false, false, false, false, false] rfl rfl (by kernel_rfl) (fun _ _ _ h => h) (Or.inl ⟨by rfl, ?_⟩) ?_ ?_
              rotate_left
              · intro w'
                go_simp
                with_reducible rfl
              rotate_left
              · simp only [Act.put, List.setIfInBounds_toArray, List.set_cons_zero, List.set_cons_succ, i64_w, i32_w]
                rfl
              refine pure_ (i := 8) (N := some 38) (v := ?_) (a' := ?_) #[true, true, true, true, true, true, true, true, true, false, false, false, false, false, false, false] rfl rfl (by kernel_rfl) (fun _ _ _ h => h) (Or.inl ⟨by rfl, ?_⟩) ?_ ?_
              rotate_left
              · intro w'
                go_simp
                with_reducible rfl
              rotate_left
              · simp only [Act.put, List.setIfInBounds_toArray, List.set_cons_zero, List.set_cons_succ, i64_w, i32_w]
                rfl
              refine take_ (i := 9) (N := some 39) (v := ?_) (a' := ?_) #[true, true, true, true, true, true, true, true, true, true, false, false, false, false, false, false] rfl rfl (by kernel_rfl) (fun _ _ _ h => h) (Or.inl ⟨by rfl, ?_⟩) hHeld ?_ ?_
              rotate_left
              · rintro w' hS
                have hq0 := (hS.cell (World.block_lt_of_cell? _ _ HY.out.1)).trans HY.out.1
                have hq1 := (hS.cell (World.block_lt_of_cell? _ _ HY.out.2.1)).trans HY.out.2.1
                have hq2 := (hS.cell (World.block_lt_of_cell? _ _ HY.out.2.2.1)).trans HY.out.2.2.1
                go_simp
                with_reducible rfl
              rotate_left
              · simp only [Act.put, List.setIfInBounds_toArray, List.set_cons_zero, List.set_cons_succ, i64_w, i32_w]
                rfl
              refine pure_ (i := 10) (N := some 40) (v := ?_) (a' := ?_) #[true, true, true, true, true, true, true, true, true, true, true, false, false, false, false, false] rfl rfl (by kernel_rfl) (fun _ _ _ h => h) (Or.inl ⟨by rfl, ?_⟩) ?_ ?_
              rotate_left
              · intro w'
                go_simp
                with_reducible rfl
              rotate_left
              · simp only [Act.put, List.setIfInBounds_toArray, List.set_cons_zero, List.set_cons_succ, i64_w, i32_w]
                rfl
              refine pure_ (i := 11) (N := some 41) (v := ?_) (a' := ?_) #[true, true, true, true, true, true, true, true, true, true, true, true, false, false, false, false] rfl rfl (by kernel_rfl) (fun _ _ _ h => h) (Or.inl ⟨by rfl, ?_⟩) ?_ ?_
              rotate_left
              · intro w'
                go_simp
                with_reducible rfl
              rotate_left
              · simp only [Act.put, List.setIfInBounds_toArray, List.set_cons_zero, List.set_cons_succ, i64_w, i32_w]
                rfl
              refine pure_ (i := 12) (N := some 42) (v := ?_) (a' := ?_) #[true, true, true, true, true, true, true, true, true, true, true, true, true, false, false, false] rfl rfl (by kernel_rfl) (fun _ _ _ h => h) (Or.inl ⟨by rfl, ?_⟩) ?_ ?_
              rotate_left
              · intro w'
                go_simp
                with_reducible rfl
              rotate_left
              · simp only [Act.put, List.setIfInBounds_toArray, List.set_cons_zero, List.set_cons_succ, i64_w, i32_w]
                rfl
              refine take_ (i := 13) (N := some 43) (v := ?_) (a' := ?_) #[true, true, true, true, true, true, true, true, true, true, true, true, true, true, false, false] rfl rfl (by kernel_rfl) (fun _ _ _ h => h) (Or.inl ⟨by rfl, ?_⟩) hHeld ?_ ?_
              rotate_left
              · rintro w' hS
                have hq0 := (hS.cell (World.block_lt_of_cell? _ _ HXq.out.1)).trans HXq.out.1
                have hq1 := (hS.cell (World.block_lt_of_cell? _ _ HXq.out.2.1)).trans HXq.out.2.1
                have hq2 := (hS.cell (World.block_lt_of_cell? _ _ HXq.out.2.2)).trans HXq.out.2.2
                simp only [s23] at hq0 hq1 hq2
                go_simp
                with_reducible rfl
              rotate_left
              · simp only [Act.put, List.setIfInBounds_toArray, List.set_cons_zero, List.set_cons_succ, i64_w, i32_w]
                rfl
              refine pure_ (i := 14) (N := some 44) (v := ?_) (a' := ?_) #[true, true, true, true, true, true, true, true, true, true, true, true, true, true, true, false] rfl rfl (by kernel_rfl) (fun _ _ _ h => h) (Or.inl ⟨by rfl, ?_⟩) ?_ ?_
              rotate_left
              · intro w'
                go_simp
                rw [ne_ifs p.1 x hpx]
                done
              rotate_left
              · simp only [Act.put, List.setIfInBounds_toArray, List.set_cons_zero, List.set_cons_succ, i64_w, i32_w]
                rfl
              refine pure_ (i := 15) (N := some 45) (v := ?_) (a' := ?_) #[true, true, true, true, true, true, true, true, true, true, true, true, true, true, true, true] rfl rfl (by kernel_rfl) (fun _ _ _ h => h) (Or.inl ⟨by rfl, ?_⟩) ?_ ?_
              rotate_left
              · intro w'
                go_simp
                with_reducible rfl
              rotate_left
              · simp only [Act.put, List.setIfInBounds_toArray, List.set_cons_zero, List.set_cons_succ, i64_w, i32_w]
                rfl
              refine done_ (by kernel_rfl) ?_
              have HPX := Aside0.mk hpx
              clear hpx HXq hHeld HY
              have HO8q := Aside0.mk (Kd.R_drew HO6.out)
              have HB8q := Aside0.mk (below_drew HB6.out)
              generalize World.drew w6 = w8 at HO8q HB8q ⊢
              obtain ⟨i0, hi0, _, hsz0, _⟩ := info_parts info49
              have hm0 : 0 ≤ (k : Int) := by omega
              have hmle : (k : Int) ≤ (o.length : Int) := by omega
              have cutT := cut_to (P := Tryd.prog) 45 49 .i64 Tryd.underlying45 hi0 (some ⟨g, 0, none⟩) o.length c3 k hm0 hmle hcc
              have cutF := cut_from (P := Tryd.prog) 45 49 .i64 Tryd.underlying45 hi0 4 hsz0 (some ⟨g, 0, none⟩) o.length c3 k hm0 hmle
              rw [Int.toNat_natCast] at cutT cutF
              have hlt_ : ((oT o).take k).length = k := by rw [List.length_take, oT_len]; omega
              have hld_ : ((oT o).drop k).length = o.length - k := by rw [List.length_drop, oT_len]
              obtain ⟨AD, hAD⟩ : ∃ AD, (if c3 = k then (some ⟨g, 0, none⟩) else Option.map (fun (z : Addr) => z.add (k * 4)) (some ⟨g, 0, none⟩)) = AD := ⟨_, rfl⟩
              obtain ⟨m2, hm2⟩ : ∃ m2, o.length - k = m2 := ⟨_, rfl⟩
              obtain ⟨cc2, hcc2⟩ : ∃ cc2, c3 - k = cc2 := ⟨_, rfl⟩
              rw [hAD, hm2, hcc2] at cutF
              rw [hm2] at hld_
              have CC : Kd.C kT w8 (some ⟨g, 0, none⟩) (oT o).length (oT o) := (Kd.R_reads' HO8q.out).2.2
              have CT : Aside0 (Kd.C kT w8 (some ⟨g, 0, none⟩) k ((oT o).take k)) := ⟨by have h := Kd.C_take (m := k) CC (by rw [oT_len]; omega); rw [hlt_] at h; exact h⟩
              have CD : Aside0 (Kd.C kT w8 AD m2 ((oT o).drop k)) := ⟨by have h := Kd.C_drop (m := k) CC (by rw [oT_len]; omega) (by rw [oT_len]; exact hcc); rw [hld_, show kT.sz = 4 from rfl, hAD] at h; exact h⟩
              have HLT := Aside0.mk hlt_
              have HLM := Aside0.mk (show k + m2 ≤ o.length from by omega)
              have HXs := Aside0.mk (And.intro ((HB8q.out.cell (World.block_lt_of_cell? w _ HX.out.1)).trans HX.out.1) (And.intro ((HB8q.out.cell (World.block_lt_of_cell? w _ HX.out.2.1)).trans HX.out.2.1) ((HB8q.out.cell (World.block_lt_of_cell? w _ HX.out.2.2)).trans HX.out.2.2)))
              have HBs := Aside0.mk HB8q.out
              clear hAD hm2 hcc2 hlt_ hld_ hm0 hmle CC
              go_wp2_with fail
              refine start_ (n := 16) (S := fun W => Below w8.heap.size w8 W) (ds := []) #[false, false, false, false, false, false, false, false, false, false, false, false, false, false, false, false] (by kernel_rfl) rfl rfl (below_drew (Below.refl _ _)) (fun hHeld => ?_)
              have hsd : Below w8.heap.size w8 w8.drew := below_drew (Below.refl _ _)
              have HBd := Aside0.mk (below_drew HB8q.out)
              replace CT := Aside0.mk (Kd.C_below CT.out hsd)
              replace CD := Aside0.mk (Kd.C_below CD.out hsd)
              generalize World.drew w8 = wd at hsd HBd CT CD hHeld ⊢
              refine pure_ (i := 0) (N := some 54) (v := ?_) (a' := ?_) #[true, false, false, false, false, false, false, false, false, false, false, false, false, false, false, false] rfl rfl (by kernel_rfl) (fun _ _ _ h => h) (Or.inl ⟨by rfl, ?_⟩) ?_ ?_
              rotate_left
              · intro w'
                go_simp
                with_reducible rfl
              rotate_left
              · simp only [Act.put, List.setIfInBounds_toArray, List.set_cons_zero, List.set_cons_succ, i64_w, i32_w]
                rfl
              refine pure_ (i := 1) (N := some 55) (v := ?_) (a' := ?_) #[true, true, false, false, false, false, false, false, false, false, false, false, false, false, false, false] rfl rfl (by kernel_rfl) (fun _ _ _ h => h) (Or.inl ⟨by rfl, ?_⟩) ?_ ?_
              rotate_left
              · intro w'
                go_simp
                with_reducible rfl
              rotate_left
              · simp only [Act.put, List.setIfInBounds_toArray, List.set_cons_zero, List.set_cons_succ, i64_w, i32_w]
                rfl
              refine pure_ (i := 2) (N := some 56) (v := ?_) (a' := ?_) #[true, true, true, false, false, false, false, false, false, false, false, false, false, false, false, false] rfl rfl (by kernel_rfl) (fun _ _ _ h => h) (Or.inl ⟨by rfl, ?_⟩) ?_ ?_
              rotate_left
              · intro w'
                go_simp
                with_reducible rfl
              rotate_left
              · simp only [Act.put, List.setIfInBounds_toArray, List.set_cons_zero, List.set_cons_succ, i64_w, i32_w]
                rfl
              refine pure_ (i := 4) (N := some 58) (v := ?_) (a' := ?_) #[true, true, true, false, true, false, false, false, false, false, false, false, false, false, false, false] rfl rfl (by kernel_rfl) (fun _ _ _ h => h) (Or.inl ⟨by rfl, ?_⟩) ?_ ?_
              rotate_left
              · intro w'
                go_simp
                with_reducible rfl
              rotate_left
              · simp only [Act.put, List.setIfInBounds_toArray, List.set_cons_zero, List.set_cons_succ, i64_w, i32_w]
                rfl
              refine pure_ (i := 5) (N := some 59) (v := ?_) (a' := ?_) #[true, true, true, false, true, true, false, false, false, false, false, false, false, false, false, false] rfl rfl (by kernel_rfl) (fun _ _ _ h => h) (Or.inl ⟨by rfl, ?_⟩) ?_ ?_
              rotate_left
              · intro w'
                go_simp
                with_reducible rfl
              rotate_left
              · simp only [Act.put, List.setIfInBounds_toArray, List.set_cons_zero, List.set_cons_succ, i64_w, i32_w]
                rfl
              refine pure_ (i := 6) (N := some 60) (v := ?_) (a' := ?_) #[true, true, true, false, true, true, true, false, false, false, false, false, false, false, false, false] rfl rfl (by kernel_rfl) (fun _ _ _ h => h) (Or.inl ⟨by rfl, ?_⟩) ?_ ?_
              rotate_left
              · intro w'
                go_simp
                with_reducible rfl
              rotate_left
              · simp only [Act.put, List.setIfInBounds_toArray, List.set_cons_zero, List.set_cons_succ, i64_w, i32_w]
                rfl
              refine take_ (i := 7) (N := some 61) (v := ?_) (a' := ?_) #[true, true, true, false, true, true, true, true, false, false, false, false, false, false, false, false] rfl rfl (by kernel_rfl) (fun _ _ _ h => h) (Or.inl ⟨by rfl, ?_⟩) hHeld ?_ ?_
              rotate_left
              · rintro w' hS
                have hq0 := (hS.cell (World.block_lt_of_cell? _ _ HXs.out.1)).trans HXs.out.1
                have hq1 := (hS.cell (World.block_lt_of_cell? _ _ HXs.out.2.1)).trans HXs.out.2.1
                have hq2 := (hS.cell (World.block_lt_of_cell? _ _ HXs.out.2.2)).trans HXs.out.2.2
                simp only [s23] at hq0 hq1 hq2
                go_simp
                with_reducible rfl
              rotate_left
              · simp only [Act.put, List.setIfInBounds_toArray, List.set_cons_zero, List.set_cons_succ, i64_w, i32_w]
                rfl
              refine pure_ (i := 8) (N := some 62) (v := ?_) (a' := ?_) #[true, true, true, false, true, true, true, true, true, false, false, false, false, false, false, false] rfl rfl (by kernel_rfl) (fun _ _ _ h => h) (Or.inl ⟨by rfl, ?_⟩) ?_ ?_
              rotate_left
              · intro w'
                go_simp
                with_reducible rfl
              rotate_left
              · simp only [Act.put, List.setIfInBounds_toArray, List.set_cons_zero, List.set_cons_succ, i64_w, i32_w]
                rfl
              refine pure_ (i := 11) (N := some 65) (v := ?_) (a' := ?_) #[true, true, true, false, true, true, true, true, true, false, false, true, false, false, false, false] rfl rfl (by kernel_rfl) (fun _ _ _ h => h) (Or.inl ⟨by rfl, ?_⟩) ?_ ?_
              rotate_left
              · intro w'
                go_simp
                with_reducible rfl
              rotate_left
              · simp only [Act.put, List.setIfInBounds_toArray, List.set_cons_zero, List.set_cons_succ, i64_w, i32_w]
                rfl
              refine pure_ (i := 12) (N := some 66) (v := ?_) (a' := ?_) #[true, true, true, false, true, true, true, true, true, false, false, true, true, false, false, false] rfl rfl (by kernel_rfl) (fun _ _ _ h => h) (Or.inl ⟨by rfl, ?_⟩) ?_ ?_
              rotate_left
              · intro w'
                go_simp
                with_reducible rfl
              rotate_left
              · simp only [Act.put, List.setIfInBounds_toArray, List.set_cons_zero, List.set_cons_succ, i64_w, i32_w]
                rfl
              refine pure_ (i := 13) (N := some 67) (v := ?_) (a' := ?_) #[true, true, true, false, true, true, true, true, true, false, false, true, true, true, false, false] rfl rfl (by kernel_rfl) (fun _ _ _ h => h) (Or.inl ⟨by rfl, ?_⟩) ?_ ?_
              rotate_left
              · intro w'
                go_simp
                with_reducible rfl
              rotate_left
              · simp only [Act.put, List.setIfInBounds_toArray, List.set_cons_zero, List.set_cons_succ, i64_w, i32_w]
                rfl
              refine join_ (σ := Value × Nat) 3 #[true, true, true, true, true, true, true, true, true, true, false, true, true, true, false, false] (fun s => [(57, s.1), (63, .slice (some ⟨s.2, 0, none⟩) 1 1)]) (fun s w' => kT.R 49 w' w.heap.size (fun _ => True) s.1 ((oT o).take k) ∧ ReadsRow (fun y cs => cs = cellsT y) 4 w' (some ⟨s.2, 0, none⟩) 1 [taT (x, 1)] ∧ Below wd.heap.size wd w' ∧ (∀ k, s.1.ownBlock = some k → wd.heap.size ≤ k)) ?contC ?ordersC
              case ordersC =>
                intro J
                refine two_ (i := 3) (j := 9) (Ni := some 57) (Nj := some 63) #[true, true, true, true, true, true, true, true, true, false, false, true, true, true, false, false] #[true, true, true, false, true, true, true, true, true, true, false, true, true, true, false, false] rfl rfl rfl rfl (by kernel_rfl) (by decide) (by decide) (fun K hK => ?_) (fun K hK => ?_)
                · refine Kd.R_append_rows_step kT (Rr := fun z cs => cs = cellsT z) (w0 := w) w.heap.size (by rfl) (.const (.slice none 0 0)) (.tmp 56) 45 49 (.agg #[.int .i64 0, .int .i64 0, .int .i64 0, .int .i64 0]) 32 rfl Tryd.underlying45 info49 rfl (by decide) (by decide) (.slice none 0 0) [] ((oT o).take k) (some ⟨g, 0, none⟩) k c3 (fun _ => True) (fun _ => False) (by rfl) (by rfl) (Kd.R_nil _ _ _ _ _) (rowC CT.out) (fun y cs h => by rw [h]; exact kT_mkM _ _ _ _) (fun _ h => h.elim) (fun _ _ => trivial) HBd.out HBd.out.size (by have := HLT.out; have := HLM.out; have := HLN.out; (try simp only [List.length_append, List.length_cons, List.length_nil]); omega) ?_
                  intro v1 w1 ho hb hg hat
                  have hs_ : Below wd.heap.size wd w1 := (Below.refl wd.heap.size wd).grown hg (Nat.le_refl _) (fun k hk => by cases hk)
                  refine hK.out _ _ (below_then hsd hsd.size hs_) (fun _ => ?_)
                  clear hK K
                  refine norm_ (a' := ?_) ?_ ?_
                  rotate_left
                  · show Act.put _ (some 57) _ = _
                    simp only [Act.put, List.setIfInBounds_toArray, List.set_cons_zero, List.set_cons_succ, i64_w, i32_w]
                    rfl
                  refine one_ (i := 9) (N := some 63) #[true, true, true, true, true, true, true, true, true, true, false, true, true, true, false, false] rfl rfl (by kernel_rfl) (by decide) (fun K hK => ?_)
                  refine value_ (w1 := ?_) (v := ?_) (by rfl) rfl ?_ ?_
                  rotate_left 2
                  · go_simp
                    constructor
                    · rfl
                    · rfl
                  refine hK.out _ _ (below_then hsd hsd.size (below_alloc hs_ _)) (fun _ => ?_)
                  clear hK K
                  have ha_ : ∀ k, v1.ownBlock = some k → wd.heap.size ≤ k := fun k hk => by
                    rcases hat with h | ⟨b, h, hl⟩
                    · rw [hk] at h; cases h
                    · rw [hk] at h; injection h with h; omega
                  exact J (v1, w1.heap.size) _ ⟨Kd.R_alloc ho _, one_T (x := taT (x, 1)) (blk_new w1 _), below_alloc hs_ _, ha_⟩
                · refine value_ (w1 := ?_) (v := ?_) (by rfl) rfl ?_ ?_
                  rotate_left 2
                  · go_simp
                    constructor
                    · rfl
                    · rfl
                  refine hK.out _ _ (below_then hsd hsd.size (below_alloc (Below.refl wd.heap.size wd) _)) (fun _ => ?_)
                  clear hK K
                  refine norm_ (a' := ?_) ?_ ?_
                  rotate_left
                  · show Act.put _ (some 63) _ = _
                    simp only [Act.put, List.setIfInBounds_toArray, List.set_cons_zero, List.set_cons_succ, i64_w, i32_w]
                    rfl
                  refine one_ (i := 3) (N := some 57) #[true, true, true, true, true, true, true, true, true, true, false, true, true, true, false, false] rfl rfl (by kernel_rfl) (by decide) (fun K hK => ?_)
                  refine Kd.R_append_rows_step kT (Rr := fun z cs => cs = cellsT z) (w0 := w) w.heap.size (by rfl) (.const (.slice none 0 0)) (.tmp 56) 45 49 (.agg #[.int .i64 0, .int .i64 0, .int .i64 0, .int .i64 0]) 32 rfl Tryd.underlying45 info49 rfl (by decide) (by decide) (.slice none 0 0) [] ((oT o).take k) (some ⟨g, 0, none⟩) k c3 (fun _ => True) (fun _ => False) (by rfl) (by rfl) (Kd.R_nil _ _ _ _ _) (rowC (Kd.C_alloc CT.out _)) (fun y cs h => by rw [h]; exact kT_mkM _ _ _ _) (fun _ h => h.elim) (fun _ _ => trivial) (below_alloc HBd.out _) (below_alloc HBd.out _).size (by have := HLT.out; have := HLM.out; have := HLN.out; (try simp only [List.length_append, List.length_cons, List.length_nil]); omega) ?_
                  intro v1 w1 ho hb hg hat
                  have hs_ : Below wd.heap.size wd w1 := (below_alloc (Below.refl wd.heap.size wd) _).grown hg (by simp) (fun k hk => by cases hk)
                  refine hK.out _ _ (below_then hsd hsd.size hs_) (fun _ => ?_)
                  clear hK K
                  have ha_ : ∀ k, v1.ownBlock = some k → wd.heap.size ≤ k := fun k hk => by
                    rcases hat with h | ⟨b, h, hl⟩
                    · rw [hk] at h; cases h
                    · rw [hk] at h; injection h with h; rw [World.size_alloc] at hl; omega
                  exact J (v1, wd.heap.size) _ ⟨ho, one_T (x := taT (x, 1)) (blk_grown (blk_new wd _) hg (by simp [Value.ownBlock])), hs_, ha_⟩
              rintro ⟨u57, b63⟩ w5 ⟨ho5, hc63, hs5, ha5⟩
              simp only [putAll]
              refine norm_ (a' := ?_) ?_ ?_
              rotate_left
              · simp only [Act.put, List.setIfInBounds_toArray, List.set_cons_zero, List.set_cons_succ, i64_w, i32_w]
                rfl
              refine one_ (i := 10) (N := some 64) #[true, true, true, true, true, true, true, true, true, true, true, true, true, true, false, false] rfl rfl (by kernel_rfl) (by decide) (fun K hK => ?_)
              refine Kd.R_append_rows_step kT (Rr := fun z cs => cs = cellsT z) (w0 := w) w.heap.size (by rfl) (.tmp 57) (.tmp 63) 45 49 (.agg #[.int .i64 0, .int .i64 0, .int .i64 0, .int .i64 0]) 32 rfl Tryd.underlying45 info49 rfl (by decide) (by decide) u57 ((oT o).take k) [taT (x, 1)] (some ⟨b63, 0, none⟩) 1 1 (fun _ => True) (fun _ => False) (by rfl) (by rfl) ho5 hc63 (fun y cs h => by rw [h]; exact kT_mkM _ _ _ _) (fun _ h => h.elim) (fun _ _ => trivial) (below_then HBd.out HBd.out.size hs5) (below_then HBd.out HBd.out.size hs5).size (by have := HLT.out; have := HLM.out; have := HLN.out; (try simp only [List.length_append, List.length_cons, List.length_nil]); omega) ?_
              intro v6 w6 ho6 hb6 hg6 hat6
              have hs6 : Below wd.heap.size wd w6 := hs5.grown hg6 hs5.size (fun k hk => ha5 k hk)
              refine hK.out _ _ (below_then hsd hsd.size hs6) (fun _ => ?_)
              clear hK K
              refine norm_ (a' := ?_) ?_ ?_
              rotate_left
              · show Act.put _ (some 64) _ = _
                simp only [Act.put, List.setIfInBounds_toArray, List.set_cons_zero, List.set_cons_succ, i64_w, i32_w]
                rfl
              refine one_ (i := 14) (N := some 68) #[true, true, true, true, true, true, true, true, true, true, true, true, true, true, true, false] rfl rfl (by kernel_rfl) (by decide) (fun K hK => ?_)
              refine Kd.R_append_rows_step kT (Rr := fun z cs => cs = cellsT z) (w0 := w) w.heap.size (by rfl) (.tmp 64) (.tmp 67) 45 49 (.agg #[.int .i64 0, .int .i64 0, .int .i64 0, .int .i64 0]) 32 rfl Tryd.underlying45 info49 rfl (by decide) (by decide) v6 ((oT o).take k ++ [taT (x, 1)]) ((oT o).drop k) AD m2 cc2 (fun _ => True) (fun _ => False) (by rfl) (by rfl) ho6 (rowC (Kd.C_below CD.out hs6)) (fun y cs h => by rw [h]; exact kT_mkM _ _ _ _) (fun _ h => h.elim) (fun _ _ => trivial) hb6 hb6.size (by have := HLT.out; have := HLM.out; have := HLN.out; (try simp only [List.length_append, List.length_cons, List.length_nil]); omega) ?_
              intro v7 w7 ho7 hb7 hg7 hat7
              have hs7 : Below wd.heap.size wd w7 := hs6.grown hg7 hs6.size (fun k hk => by
                rcases hat6 with h | ⟨b, h, hl⟩
                · exact ha5 k (by rw [← h]; exact hk)
                · rw [hk] at h; injection h with h; have := hs5.size; omega)
              refine hK.out _ _ (below_then hsd hsd.size hs7) (fun _ => ?_)
              clear hK K
              refine norm_ (a' := ?_) ?_ ?_
              rotate_left
              · show Act.put _ (some 68) _ = _
                simp only [Act.put, List.setIfInBounds_toArray, List.set_cons_zero, List.set_cons_succ, i64_w, i32_w]
                rfl
              refine pure_ (i := 15) (N := some 3) (v := ?_) (a' := ?_) #[true, true, true, true, true, true, true, true, true, true, true, true, true, true, true, true] rfl rfl (by kernel_rfl) (fun _ _ _ h => h) (Or.inl ⟨by rfl, ?_⟩) ?_ ?_
              rotate_left
              · intro w'
                go_simp
                with_reducible rfl
              rotate_left
              · simp only [Act.put, List.setIfInBounds_toArray, List.set_cons_zero, List.set_cons_succ, i64_w, i32_w]
                rfl
              refine done_ (by kernel_rfl) ?_
              have HO7 := Aside0.mk ho7
              have HB7 := Aside0.mk hb7
              clear ho7 hb7 hs7 hs6 hs5 ho6 hb6 ho5 hc63 cutT cutF
              have HO8 : Aside0 (kT.R 49 w7 w.heap.size (fun _ => True) v7 (oT (tally ltv (ks.take (i + 1))))) := ⟨by
                rw [HS.out, tins_new x o k hlt2 HP.out (by rw [HPP.out]; exact HBB.out) (by rw [HPP.out]; exact HPX.out)]
                have h := HO7.out
                simpa [oT, List.map_append, List.map_take, List.map_drop] using h⟩
              clear HO7
              try go_wp2
              go_roundw
              case rel => exact ⟨i + 1, by go_num, by omega, HO8, HB7⟩
              case measure => simp [intOf]; omega
          · have hb := hb0
            clear hb0
            go_wp2_with fail
            obtain ⟨wd, hwd⟩ : ∃ wd : World, wd = wr := ⟨_, rfl⟩
            subst hwd
            have HXq := Aside0.mk (And.intro ((HB.out.cell (World.block_lt_of_cell? w _ HX.out.1)).trans HX.out.1) (And.intro ((HB.out.cell (World.block_lt_of_cell? w _ HX.out.2.1)).trans HX.out.2.1) ((HB.out.cell (World.block_lt_of_cell? w _ HX.out.2.2)).trans HX.out.2.2)))
            refine start_ (n := 16) (S := fun W => Below wd.heap.size wd W) (ds := []) #[false, false, false, false, false, false, false, false, false, false, false, false, false, false, false, false] (by kernel_rfl) rfl rfl (below_drew (Below.refl _ _)) (fun hHeld => ?_)
            refine pure_ (i := 0) (N := some 12) (v := ?_) (a' := ?_) #[true, false, false, false, false, false, false, false, false, false, false, false, false, false, false, false] rfl rfl (by kernel_rfl) (fun _ _ _ h => h) (Or.inl ⟨by rfl, ?_⟩) ?_ ?_
            rotate_left
            · intro w'
              go_simp
              with_reducible rfl
            rotate_left
            · simp only [Act.put, List.setIfInBounds_toArray, List.set_cons_zero, List.set_cons_succ, i64_w, i32_w]
              rfl
            refine pure_ (i := 1) (N := some 13) (v := ?_) (a' := ?_) #[true, true, false, false, false, false, false, false, false, false, false, false, false, false, false, false] rfl rfl (by kernel_rfl) (fun _ _ _ h => h) (Or.inl ⟨by rfl, ?_⟩) ?_ ?_
            rotate_left
            · intro w'
              go_simp
              with_reducible rfl
            rotate_left
            · simp only [Act.put, List.setIfInBounds_toArray, List.set_cons_zero, List.set_cons_succ, i64_w, i32_w]
              rfl
            refine pure_ (i := 2) (N := some 14) (v := ?_) (a' := ?_) #[true, true, true, false, false, false, false, false, false, false, false, false, false, false, false, false] rfl rfl (by kernel_rfl) (fun _ _ _ h => h) (Or.inl ⟨by rfl, ?_⟩) ?_ ?_
            rotate_left
            · intro w'
              go_simp
              with_reducible rfl
            rotate_left
            · simp only [Act.put, List.setIfInBounds_toArray, List.set_cons_zero, List.set_cons_succ, i64_w, i32_w]
              rfl
            refine pure_ (i := 3) (N := some 15) (v := ?_) (a' := ?_) #[true, true, true, true, false, false, false, false, false, false, false, false, false, false, false, false] rfl rfl (by kernel_rfl) (fun _ _ _ h => h) (Or.inl ⟨by rfl, ?_⟩) ?_ ?_
            rotate_left
            · intro w'
              go_simp
              with_reducible rfl
            rotate_left
            · simp only [Act.put, List.setIfInBounds_toArray, List.set_cons_zero, List.set_cons_succ, i64_w, i32_w]
              rfl
            refine pure_ (i := 4) (N := some 16) (v := ?_) (a' := ?_) #[true, true, true, true, true, false, false, false, false, false, false, false, false, false, false, false] rfl rfl (by kernel_rfl) (fun _ _ _ h => h) (Or.inl ⟨by rfl, ?_⟩) ?_ ?_
            rotate_left
            · intro w'
              go_simp
              with_reducible rfl
            rotate_left
            · simp only [Act.put, List.setIfInBounds_toArray, List.set_cons_zero, List.set_cons_succ, i64_w, i32_w]
              rfl
            refine pure_ (i := 5) (N := some 17) (v := ?_) (a' := ?_) #[true, true, true, true, true, true, false, false, false, false, false, false, false, false, false, false] rfl rfl (by kernel_rfl) (fun _ _ _ h => h) (Or.inl ⟨by rfl, ?_⟩) ?_ ?_
            rotate_left
            · intro w'
              go_simp
              with_reducible rfl
            rotate_left
            · simp only [Act.put, List.setIfInBounds_toArray, List.set_cons_zero, List.set_cons_succ, i64_w, i32_w]
              rfl
            refine pure_ (i := 6) (N := some 18) (v := ?_) (a' := ?_) #[true, true, true, true, true, true, true, false, false, false, false, false, false, false, false, false] rfl rfl (by kernel_rfl) (fun _ _ _ h => h) (Or.inl ⟨by rfl, ?_⟩) ?_ ?_
            rotate_left
            · intro w'
              go_simp
              with_reducible rfl
            rotate_left
            · simp only [Act.put, List.setIfInBounds_toArray, List.set_cons_zero, List.set_cons_succ, i64_w, i32_w]
              rfl
            refine pure_ (i := 7) (N := some 19) (v := ?_) (a' := ?_) #[true, true, true, true, true, true, true, true, false, false, false, false, false, false, false, false] rfl rfl (by kernel_rfl) (fun _ _ _ h => h) (Or.inl ⟨by rfl, ?_⟩) ?_ ?_
            rotate_left
            · intro w'
              go_simp
              with_reducible rfl
            rotate_left
            · simp only [Act.put, List.setIfInBounds_toArray, List.set_cons_zero, List.set_cons_succ, i64_w, i32_w]
              rfl
            refine pure_ (i := 8) (N := some 20) (v := ?_) (a' := ?_) #[true, true, true, true, true, true, true, true, true, false, false, false, false, false, false, false] rfl rfl (by kernel_rfl) (fun _ _ _ h => h) (Or.inl ⟨by rfl, ?_⟩) ?_ ?_
            rotate_left
            · intro w'
              go_simp
              with_reducible rfl
            rotate_left
            · simp only [Act.put, List.setIfInBounds_toArray, List.set_cons_zero, List.set_cons_succ, i64_w, i32_w]
              rfl
            refine take_ (i := 9) (N := some 21) (v := ?_) (a' := ?_) #[true, true, true, true, true, true, true, true, true, true, false, false, false, false, false, false] rfl rfl (by kernel_rfl) (fun _ _ _ h => h) (Or.inl ⟨by rfl, ?_⟩) hHeld ?_ ?_
            rotate_left
            · rintro w' hS
              have hq0 := (hS.cell (World.block_lt_of_cell? _ _ HY.out.1)).trans HY.out.1
              have hq1 := (hS.cell (World.block_lt_of_cell? _ _ HY.out.2.1)).trans HY.out.2.1
              have hq2 := (hS.cell (World.block_lt_of_cell? _ _ HY.out.2.2.1)).trans HY.out.2.2.1
              go_simp
              with_reducible rfl
            rotate_left
            · simp only [Act.put, List.setIfInBounds_toArray, List.set_cons_zero, List.set_cons_succ, i64_w, i32_w]
              rfl
            refine pure_ (i := 10) (N := some 22) (v := ?_) (a' := ?_) #[true, true, true, true, true, true, true, true, true, true, true, false, false, false, false, false] rfl rfl (by kernel_rfl) (fun _ _ _ h => h) (Or.inl ⟨by rfl, ?_⟩) ?_ ?_
            rotate_left
            · intro w'
              go_simp
              with_reducible rfl
            rotate_left
            · simp only [Act.put, List.setIfInBounds_toArray, List.set_cons_zero, List.set_cons_succ, i64_w, i32_w]
              rfl
            refine pure_ (i := 11) (N := some 23) (v := ?_) (a' := ?_) #[true, true, true, true, true, true, true, true, true, true, true, true, false, false, false, false] rfl rfl (by kernel_rfl) (fun _ _ _ h => h) (Or.inl ⟨by rfl, ?_⟩) ?_ ?_
            rotate_left
            · intro w'
              go_simp
              with_reducible rfl
            rotate_left
            · simp only [Act.put, List.setIfInBounds_toArray, List.set_cons_zero, List.set_cons_succ, i64_w, i32_w]
              rfl
            refine pure_ (i := 12) (N := some 24) (v := ?_) (a' := ?_) #[true, true, true, true, true, true, true, true, true, true, true, true, true, false, false, false] rfl rfl (by kernel_rfl) (fun _ _ _ h => h) (Or.inl ⟨by rfl, ?_⟩) ?_ ?_
            rotate_left
            · intro w'
              go_simp
              with_reducible rfl
            rotate_left
            · simp only [Act.put, List.setIfInBounds_toArray, List.set_cons_zero, List.set_cons_succ, i64_w, i32_w]
              rfl
            refine take_ (i := 13) (N := some 25) (v := ?_) (a' := ?_) #[true, true, true, true, true, true, true, true, true, true, true, true, true, true, false, false] rfl rfl (by kernel_rfl) (fun _ _ _ h => h) (Or.inl ⟨by rfl, ?_⟩) hHeld ?_ ?_
            rotate_left
            · rintro w' hS
              have hq0 := (hS.cell (World.block_lt_of_cell? _ _ HXq.out.1)).trans HXq.out.1
              have hq1 := (hS.cell (World.block_lt_of_cell? _ _ HXq.out.2.1)).trans HXq.out.2.1
              have hq2 := (hS.cell (World.block_lt_of_cell? _ _ HXq.out.2.2)).trans HXq.out.2.2
              simp only [s23] at hq0 hq1 hq2
              go_simp
              with_reducible rfl
            rotate_left
            · simp only [Act.put, List.setIfInBounds_toArray, List.set_cons_zero, List.set_cons_succ, i64_w, i32_w]
              rfl
            refine one_ (i := 14) (N := some 26) #[true, true, true, true, true, true, true, true, true, true, true, true, true, true, true, false] rfl rfl (by kernel_rfl) (by decide) (fun K hK => ?_)
            refine goes_ Tryd.func22 (by kernel_rfl) rfl #[.agg #[.int .i64 p.1.1.1, .int .i64 p.1.1.2.1, .int .i64 p.1.1.2.2], .agg #[.int .i64 x.1.1, .int .i64 x.1.2.1, .int .i64 x.1.2.2]] (by rfl) rfl rfl (by (try simp only [List.map_toArray, List.map_cons, List.map_nil]); first | done | rfl) ?_
            refine (rless_calls p.1 x true hb _).mono ?_
            rintro e w6 ⟨rfl, hb6⟩
            have hs6 := below_then hHeld (by simp) hb6
            refine ⟨_, rfl, ?_⟩
            refine hK.out _ _ hs6 (fun _ => ?_)
            clear hK K
            refine norm_ (a' := ?_) ?_ ?_
            rotate_left
            · show Act.put _ (some 26) _ = _
              simp only [Act.put, List.setIfInBounds_toArray, List.set_cons_zero, List.set_cons_succ, i64_w, i32_w]
              rfl
            refine pure_ (i := 15) (N := some 27) (v := ?_) (a' := ?_) #[true, true, true, true, true, true, true, true, true, true, true, true, true, true, true, true] rfl rfl (by kernel_rfl) (fun _ _ _ h => h) (Or.inl ⟨by rfl, ?_⟩) ?_ ?_
            rotate_left
            · intro w'
              go_simp
              with_reducible rfl
            rotate_left
            · simp only [Act.put, List.setIfInBounds_toArray, List.set_cons_zero, List.set_cons_succ, i64_w, i32_w]
              rfl
            refine done_ (by kernel_rfl) ?_
            have HO6 := Aside0.mk (Kd.R_below HO.out hs6)
            have HB6 := Aside0.mk (below_then HB.out HB.out.size hs6)
            clear hs6 hb6 HO HB HXq hHeld
            have HBB := Aside0.mk hb
            clear hb
            go_wp2
            go_roundw
            case rel => exact ⟨k + 1, by go_num, by omega, ⟨fun z hz => by
              rw [List.take_succ_eq_append_getElem hlt2, HPP.out] at hz
              rcases List.mem_append.1 hz with h | h
              · exact HP.out z h
              · rw [List.mem_singleton] at h; rw [h]; exact HBB.out⟩, HO6, HB6⟩
            case measure => simp [intOf]; omega
        · have hko : k = o.length := by omega
          have d1 : decide ((k : Int) < (o.length : Int)) = false := decide_eq_false (by omega)
          have d2 : decide (k < o.length) = false := decide_eq_false (by omega)
          have HKO := Aside0.mk hko
          clear hko
          go_wp2_with fail
          refine start_ (n := 16) (S := fun W => True) (ds := []) #[false, false, false, false, false, false, false, false, false, false, false, false, false, false, false, false] (by kernel_rfl) rfl rfl trivial (fun hHeld => ?_)
          refine pure_ (i := 0) (N := some 12) (v := ?_) (a' := ?_) #[true, false, false, false, false, false, false, false, false, false, false, false, false, false, false, false] rfl rfl (by kernel_rfl) (fun _ _ _ h => h) (Or.inl ⟨by rfl, ?_⟩) ?_ ?_
          rotate_left
          · intro w'
            go_simp
            with_reducible rfl
          rotate_left
          · simp only [Act.put, List.setIfInBounds_toArray, List.set_cons_zero, List.set_cons_succ, i64_w, i32_w]
            rfl
          refine pure_ (i := 1) (N := some 13) (v := ?_) (a' := ?_) #[true, true, false, false, false, false, false, false, false, false, false, false, false, false, false, false] rfl rfl (by kernel_rfl) (fun _ _ _ h => h) (Or.inl ⟨by rfl, ?_⟩) ?_ ?_
          rotate_left
          · intro w'
            go_simp
            with_reducible rfl
          rotate_left
          · simp only [Act.put, List.setIfInBounds_toArray, List.set_cons_zero, List.set_cons_succ, i64_w, i32_w]
            rfl
          refine pure_ (i := 2) (N := some 14) (v := ?_) (a' := ?_) #[true, true, true, false, false, false, false, false, false, false, false, false, false, false, false, false] rfl rfl (by kernel_rfl) (fun _ _ _ h => h) (Or.inl ⟨by rfl, ?_⟩) ?_ ?_
          rotate_left
          · intro w'
            go_simp
            with_reducible rfl
          rotate_left
          · simp only [Act.put, List.setIfInBounds_toArray, List.set_cons_zero, List.set_cons_succ, i64_w, i32_w]
            rfl
          refine pure_ (i := 3) (N := some 15) (v := ?_) (a' := ?_) #[true, true, true, true, false, false, false, false, false, false, false, false, false, false, false, false] rfl rfl (by kernel_rfl) (fun _ _ _ h => h) (Or.inl ⟨by rfl, ?_⟩) ?_ ?_
          rotate_left
          · intro w'
            go_simp
            with_reducible rfl
          rotate_left
          · simp only [Act.put, List.setIfInBounds_toArray, List.set_cons_zero, List.set_cons_succ, i64_w, i32_w]
            rfl
          refine pure_ (i := 4) (N := some 16) (v := ?_) (a' := ?_) #[true, true, true, true, true, false, false, false, false, false, false, false, false, false, false, false] rfl rfl (by kernel_rfl) (fun _ _ _ h => h) (Or.inl ⟨by rfl, ?_⟩) ?_ ?_
          rotate_left
          · intro w'
            go_simp
            with_reducible rfl
          rotate_left
          · simp only [Act.put, List.setIfInBounds_toArray, List.set_cons_zero, List.set_cons_succ, i64_w, i32_w]
            rfl
          refine pure_ (i := 5) (N := some 17) (v := undef) (a' := ?_) #[true, true, true, true, true, true, false, false, false, false, false, false, false, false, false, false] rfl rfl (by kernel_rfl) (fun _ _ _ h => h) (Or.inr ⟨by rfl, rfl⟩) ?_ ?_
          rotate_left
          · simp only [Act.put, List.setIfInBounds_toArray, List.set_cons_zero, List.set_cons_succ, i64_w, i32_w]
            rfl
          refine pure_ (i := 6) (N := some 18) (v := undef) (a' := ?_) #[true, true, true, true, true, true, true, false, false, false, false, false, false, false, false, false] rfl rfl (by kernel_rfl) (fun _ _ _ h => h) (Or.inr ⟨by rfl, rfl⟩) ?_ ?_
          rotate_left
          · simp only [Act.put, List.setIfInBounds_toArray, List.set_cons_zero, List.set_cons_succ, i64_w, i32_w]
            rfl
          refine pure_ (i := 7) (N := some 19) (v := undef) (a' := ?_) #[true, true, true, true, true, true, true, true, false, false, false, false, false, false, false, false] rfl rfl (by kernel_rfl) (fun _ _ _ h => h) (Or.inr ⟨by rfl, rfl⟩) ?_ ?_
          rotate_left
          · simp only [Act.put, List.setIfInBounds_toArray, List.set_cons_zero, List.set_cons_succ, i64_w, i32_w]
            rfl
          refine pure_ (i := 8) (N := some 20) (v := undef) (a' := ?_) #[true, true, true, true, true, true, true, true, true, false, false, false, false, false, false, false] rfl rfl (by kernel_rfl) (fun _ _ _ h => h) (Or.inr ⟨by rfl, rfl⟩) ?_ ?_
          rotate_left
          · simp only [Act.put, List.setIfInBounds_toArray, List.set_cons_zero, List.set_cons_succ, i64_w, i32_w]
            rfl
          refine pure_ (i := 9) (N := some 21) (v := undef) (a' := ?_) #[true, true, true, true, true, true, true, true, true, true, false, false, false, false, false, false] rfl rfl (by kernel_rfl) (fun _ _ _ h => h) (Or.inr ⟨by rfl, rfl⟩) ?_ ?_
          rotate_left
          · simp only [Act.put, List.setIfInBounds_toArray, List.set_cons_zero, List.set_cons_succ, i64_w, i32_w]
            rfl
          refine pure_ (i := 10) (N := some 22) (v := undef) (a' := ?_) #[true, true, true, true, true, true, true, true, true, true, true, false, false, false, false, false] rfl rfl (by kernel_rfl) (fun _ _ _ h => h) (Or.inr ⟨by rfl, rfl⟩) ?_ ?_
          rotate_left
          · simp only [Act.put, List.setIfInBounds_toArray, List.set_cons_zero, List.set_cons_succ, i64_w, i32_w]
            rfl
          refine pure_ (i := 11) (N := some 23) (v := undef) (a' := ?_) #[true, true, true, true, true, true, true, true, true, true, true, true, false, false, false, false] rfl rfl (by kernel_rfl) (fun _ _ _ h => h) (Or.inr ⟨by rfl, rfl⟩) ?_ ?_
          rotate_left
          · simp only [Act.put, List.setIfInBounds_toArray, List.set_cons_zero, List.set_cons_succ, i64_w, i32_w]
            rfl
          refine pure_ (i := 12) (N := some 24) (v := undef) (a' := ?_) #[true, true, true, true, true, true, true, true, true, true, true, true, true, false, false, false] rfl rfl (by kernel_rfl) (fun _ _ _ h => h) (Or.inr ⟨by rfl, rfl⟩) ?_ ?_
          rotate_left
          · simp only [Act.put, List.setIfInBounds_toArray, List.set_cons_zero, List.set_cons_succ, i64_w, i32_w]
            rfl
          refine pure_ (i := 13) (N := some 25) (v := undef) (a' := ?_) #[true, true, true, true, true, true, true, true, true, true, true, true, true, true, false, false] rfl rfl (by kernel_rfl) (fun _ _ _ h => h) (Or.inr ⟨by rfl, rfl⟩) ?_ ?_
          rotate_left
          · simp only [Act.put, List.setIfInBounds_toArray, List.set_cons_zero, List.set_cons_succ, i64_w, i32_w]
            rfl
          refine pure_ (i := 14) (N := some 26) (v := undef) (a' := ?_) #[true, true, true, true, true, true, true, true, true, true, true, true, true, true, true, false] rfl rfl (by kernel_rfl) (fun _ _ _ h => h) (Or.inr ⟨by rfl, rfl⟩) ?_ ?_
          rotate_left
          · simp only [Act.put, List.setIfInBounds_toArray, List.set_cons_zero, List.set_cons_succ, i64_w, i32_w]
            rfl
          refine pure_ (i := 15) (N := some 27) (v := ?_) (a' := ?_) #[true, true, true, true, true, true, true, true, true, true, true, true, true, true, true, true] rfl rfl (by kernel_rfl) (fun _ _ _ h => h) (Or.inl ⟨by rfl, ?_⟩) ?_ ?_
          rotate_left
          · intro w'
            go_simp
            with_reducible rfl
          rotate_left
          · simp only [Act.put, List.setIfInBounds_toArray, List.set_cons_zero, List.set_cons_succ, i64_w, i32_w]
            rfl
          refine done_ (by kernel_rfl) ?_
          go_wp2_with fail
          refine start_ (n := 16) (S := fun W => True) (ds := []) #[false, false, false, false, false, false, false, false, false, false, false, false, false, false, false, false] (by kernel_rfl) rfl rfl trivial (fun hHeld => ?_)
          refine pure_ (i := 0) (N := some 30) (v := ?_) (a' := ?_) #[true, false, false, false, false, false, false, false, false, false, false, false, false, false, false, false] rfl rfl (by kernel_rfl) (fun _ _ _ h => h) (Or.inl ⟨by rfl, ?_⟩) ?_ ?_
          rotate_left
          · intro w'
            go_simp
            with_reducible rfl
          rotate_left
          · simp only [Act.put, List.setIfInBounds_toArray, List.set_cons_zero, List.set_cons_succ, i64_w, i32_w]
            rfl
          refine pure_ (i := 1) (N := some 31) (v := ?_) (a' := ?_) #[true, true, false, false, false, false, false, false, false, false, false, false, false, false, false, false] rfl rfl (by kernel_rfl) (fun _ _ _ h => h) (Or.inl ⟨by rfl, ?_⟩) ?_ ?_
          rotate_left
          · intro w'
            go_simp
            with_reducible rfl
          rotate_left
          · simp only [Act.put, List.setIfInBounds_toArray, List.set_cons_zero, List.set_cons_succ, i64_w, i32_w]
            rfl
          refine pure_ (i := 2) (N := some 32) (v := ?_) (a' := ?_) #[true, true, true, false, false, false, false, false, false, false, false, false, false, false, false, false] rfl rfl (by kernel_rfl) (fun _ _ _ h => h) (Or.inl ⟨by rfl, ?_⟩) ?_ ?_
          rotate_left
          · intro w'
            go_simp
            with_reducible rfl
          rotate_left
          · simp only [Act.put, List.setIfInBounds_toArray, List.set_cons_zero, List.set_cons_succ, i64_w, i32_w]
            rfl
          refine pure_ (i := 3) (N := some 33) (v := ?_) (a' := ?_) #[true, true, true, true, false, false, false, false, false, false, false, false, false, false, false, false] rfl rfl (by kernel_rfl) (fun _ _ _ h => h) (Or.inl ⟨by rfl, ?_⟩) ?_ ?_
          rotate_left
          · intro w'
            go_simp
            with_reducible rfl
          rotate_left
          · simp only [Act.put, List.setIfInBounds_toArray, List.set_cons_zero, List.set_cons_succ, i64_w, i32_w]
            rfl
          refine pure_ (i := 4) (N := some 34) (v := ?_) (a' := ?_) #[true, true, true, true, true, false, false, false, false, false, false, false, false, false, false, false] rfl rfl (by kernel_rfl) (fun _ _ _ h => h) (Or.inl ⟨by rfl, ?_⟩) ?_ ?_
          rotate_left
          · intro w'
            go_simp
            with_reducible rfl
          rotate_left
          · simp only [Act.put, List.setIfInBounds_toArray, List.set_cons_zero, List.set_cons_succ, i64_w, i32_w]
            rfl
          refine pure_ (i := 5) (N := some 35) (v := undef) (a' := ?_) #[true, true, true, true, true, true, false, false, false, false, false, false, false, false, false, false] rfl rfl (by kernel_rfl) (fun _ _ _ h => h) (Or.inr ⟨by rfl, rfl⟩) ?_ ?_
          rotate_left
          · simp only [Act.put, List.setIfInBounds_toArray, List.set_cons_zero, List.set_cons_succ, i64_w, i32_w]
            rfl
          refine pure_ (i := 6) (N := some 36) (v := undef) (a' := ?_) #[true, true, true, true, true, true, true, false, false, false, false, false, false, false, false, false] rfl rfl (by kernel_rfl) (fun _ _ _ h => h) (Or.inr ⟨by rfl, rfl⟩) ?_ ?_
          rotate_left
          · simp only [Act.put, List.setIfInBounds_toArray, List.set_cons_zero, List.set_cons_succ, i64_w, i32_w]
            rfl
          refine pure_ (i := 7) (N := some 37) (v := undef) (a' := ?_) #[true, true, true, true, true, true, true, true, false, false, false, false, false, false, false, false] rfl rfl (by kernel_rfl) (fun _ _ _ h => h) (Or.inr ⟨by rfl, rfl⟩) ?_ ?_
          rotate_left
          · simp only [Act.put, List.setIfInBounds_toArray, List.set_cons_zero, List.set_cons_succ, i64_w, i32_w]
            rfl
          refine pure_ (i := 8) (N := some 38) (v := undef) (a' := ?_) #[true, true, true, true, true, true, true, true, true, false, false, false, false, false, false, false] rfl rfl (by kernel_rfl) (fun _ _ _ h => h) (Or.inr ⟨by rfl, rfl⟩) ?_ ?_
          rotate_left
          · simp only [Act.put, List.setIfInBounds_toArray, List.set_cons_zero, List.set_cons_succ, i64_w, i32_w]
            rfl
          refine pure_ (i := 9) (N := some 39) (v := undef) (a' := ?_) #[true, true, true, true, true, true, true, true, true, true, false, false, false, false, false, false] rfl rfl (by kernel_rfl) (fun _ _ _ h => h) (Or.inr ⟨by rfl, rfl⟩) ?_ ?_
          rotate_left
          · simp only [Act.put, List.setIfInBounds_toArray, List.set_cons_zero, List.set_cons_succ, i64_w, i32_w]
            rfl
          refine pure_ (i := 10) (N := some 40) (v := undef) (a' := ?_) #[true, true, true, true, true, true, true, true, true, true, true, false, false, false, false, false] rfl rfl (by kernel_rfl) (fun _ _ _ h => h) (Or.inr ⟨by rfl, rfl⟩) ?_ ?_
          rotate_left
          · simp only [Act.put, List.setIfInBounds_toArray, List.set_cons_zero, List.set_cons_succ, i64_w, i32_w]
            rfl
          refine pure_ (i := 11) (N := some 41) (v := undef) (a' := ?_) #[true, true, true, true, true, true, true, true, true, true, true, true, false, false, false, false] rfl rfl (by kernel_rfl) (fun _ _ _ h => h) (Or.inr ⟨by rfl, rfl⟩) ?_ ?_
          rotate_left
          · simp only [Act.put, List.setIfInBounds_toArray, List.set_cons_zero, List.set_cons_succ, i64_w, i32_w]
            rfl
          refine pure_ (i := 12) (N := some 42) (v := undef) (a' := ?_) #[true, true, true, true, true, true, true, true, true, true, true, true, true, false, false, false] rfl rfl (by kernel_rfl) (fun _ _ _ h => h) (Or.inr ⟨by rfl, rfl⟩) ?_ ?_
          rotate_left
          · simp only [Act.put, List.setIfInBounds_toArray, List.set_cons_zero, List.set_cons_succ, i64_w, i32_w]
            rfl
          refine pure_ (i := 13) (N := some 43) (v := undef) (a' := ?_) #[true, true, true, true, true, true, true, true, true, true, true, true, true, true, false, false] rfl rfl (by kernel_rfl) (fun _ _ _ h => h) (Or.inr ⟨by rfl, rfl⟩) ?_ ?_
          rotate_left
          · simp only [Act.put, List.setIfInBounds_toArray, List.set_cons_zero, List.set_cons_succ, i64_w, i32_w]
            rfl
          refine pure_ (i := 14) (N := some 44) (v := undef) (a' := ?_) #[true, true, true, true, true, true, true, true, true, true, true, true, true, true, true, false] rfl rfl (by kernel_rfl) (fun _ _ _ h => h) (Or.inr ⟨by rfl, rfl⟩) ?_ ?_
          rotate_left
          · simp only [Act.put, List.setIfInBounds_toArray, List.set_cons_zero, List.set_cons_succ, i64_w, i32_w]
            rfl
          refine pure_ (i := 15) (N := some 45) (v := ?_) (a' := ?_) #[true, true, true, true, true, true, true, true, true, true, true, true, true, true, true, true] rfl rfl (by kernel_rfl) (fun _ _ _ h => h) (Or.inl ⟨by rfl, ?_⟩) ?_ ?_
          rotate_left
          · intro w'
            go_simp
            with_reducible rfl
          rotate_left
          · simp only [Act.put, List.setIfInBounds_toArray, List.set_cons_zero, List.set_cons_succ, i64_w, i32_w]
            rfl
          refine done_ (by kernel_rfl) ?_
          have HO8q := Aside0.mk (Kd.R_drew (Kd.R_drew HO.out))
          have HB8q := Aside0.mk (below_drew (below_drew HB.out))
          generalize World.drew (World.drew wr) = w8 at HO8q HB8q ⊢
          obtain ⟨i0, hi0, _, hsz0, _⟩ := info_parts info49
          have hm0 : 0 ≤ (k : Int) := by omega
          have hmle : (k : Int) ≤ (o.length : Int) := by omega
          have cutT := cut_to (P := Tryd.prog) 45 49 .i64 Tryd.underlying45 hi0 A3 o.length c3 k hm0 hmle hcc
          have cutF := cut_from (P := Tryd.prog) 45 49 .i64 Tryd.underlying45 hi0 4 hsz0 A3 o.length c3 k hm0 hmle
          rw [Int.toNat_natCast] at cutT cutF
          have hlt_ : ((oT o).take k).length = k := by rw [List.length_take, oT_len]; omega
          have hld_ : ((oT o).drop k).length = o.length - k := by rw [List.length_drop, oT_len]
          obtain ⟨AD, hAD⟩ : ∃ AD, (if c3 = k then A3 else Option.map (fun (z : Addr) => z.add (k * 4)) A3) = AD := ⟨_, rfl⟩
          obtain ⟨m2, hm2⟩ : ∃ m2, o.length - k = m2 := ⟨_, rfl⟩
          obtain ⟨cc2, hcc2⟩ : ∃ cc2, c3 - k = cc2 := ⟨_, rfl⟩
          rw [hAD, hm2, hcc2] at cutF
          rw [hm2] at hld_
          have CC : Kd.C kT w8 A3 (oT o).length (oT o) := (Kd.R_reads' HO8q.out).2.2
          have CT : Aside0 (Kd.C kT w8 A3 k ((oT o).take k)) := ⟨by have h := Kd.C_take (m := k) CC (by rw [oT_len]; omega); rw [hlt_] at h; exact h⟩
          have CD : Aside0 (Kd.C kT w8 AD m2 ((oT o).drop k)) := ⟨by have h := Kd.C_drop (m := k) CC (by rw [oT_len]; omega) (by rw [oT_len]; exact hcc); rw [hld_, show kT.sz = 4 from rfl, hAD] at h; exact h⟩
          have HLT := Aside0.mk hlt_
          have HLM := Aside0.mk (show k + m2 ≤ o.length from by omega)
          have HXs := Aside0.mk (And.intro ((HB8q.out.cell (World.block_lt_of_cell? w _ HX.out.1)).trans HX.out.1) (And.intro ((HB8q.out.cell (World.block_lt_of_cell? w _ HX.out.2.1)).trans HX.out.2.1) ((HB8q.out.cell (World.block_lt_of_cell? w _ HX.out.2.2)).trans HX.out.2.2)))
          have HBs := Aside0.mk HB8q.out
          clear hAD hm2 hcc2 hlt_ hld_ hm0 hmle CC
          go_wp2_with fail
          refine start_ (n := 16) (S := fun W => Below w8.heap.size w8 W) (ds := []) #[false, false, false, false, false, false, false, false, false, false, false, false, false, false, false, false] (by kernel_rfl) rfl rfl (below_drew (Below.refl _ _)) (fun hHeld => ?_)
          have hsd : Below w8.heap.size w8 w8.drew := below_drew (Below.refl _ _)
          have HBd := Aside0.mk (below_drew HB8q.out)
          replace CT := Aside0.mk (Kd.C_below CT.out hsd)
          replace CD := Aside0.mk (Kd.C_below CD.out hsd)
          generalize World.drew w8 = wd at hsd HBd CT CD hHeld ⊢
          refine pure_ (i := 0) (N := some 54) (v := ?_) (a' := ?_) #[true, false, false, false, false, false, false, false, false, false, false, false, false, false, false, false] rfl rfl (by kernel_rfl) (fun _ _ _ h => h) (Or.inl ⟨by rfl, ?_⟩) ?_ ?_
          rotate_left
          · intro w'
            go_simp
            with_reducible rfl
          rotate_left
          · simp only [Act.put, List.setIfInBounds_toArray, List.set_cons_zero, List.set_cons_succ, i64_w, i32_w]
            rfl
          refine pure_ (i := 1) (N := some 55) (v := ?_) (a' := ?_) #[true, true, false, false, false, false, false, false, false, false, false, false, false, false, false, false] rfl rfl (by kernel_rfl) (fun _ _ _ h => h) (Or.inl ⟨by rfl, ?_⟩) ?_ ?_
          rotate_left
          · intro w'
            go_simp
            with_reducible rfl
          rotate_left
          · simp only [Act.put, List.setIfInBounds_toArray, List.set_cons_zero, List.set_cons_succ, i64_w, i32_w]
            rfl
          refine pure_ (i := 2) (N := some 56) (v := ?_) (a' := ?_) #[true, true, true, false, false, false, false, false, false, false, false, false, false, false, false, false] rfl rfl (by kernel_rfl) (fun _ _ _ h => h) (Or.inl ⟨by rfl, ?_⟩) ?_ ?_
          rotate_left
          · intro w'
            go_simp
            with_reducible rfl
          rotate_left
          · simp only [Act.put, List.setIfInBounds_toArray, List.set_cons_zero, List.set_cons_succ, i64_w, i32_w]
            rfl
          refine pure_ (i := 4) (N := some 58) (v := ?_) (a' := ?_) #[true, true, true, false, true, false, false, false, false, false, false, false, false, false, false, false] rfl rfl (by kernel_rfl) (fun _ _ _ h => h) (Or.inl ⟨by rfl, ?_⟩) ?_ ?_
          rotate_left
          · intro w'
            go_simp
            with_reducible rfl
          rotate_left
          · simp only [Act.put, List.setIfInBounds_toArray, List.set_cons_zero, List.set_cons_succ, i64_w, i32_w]
            rfl
          refine pure_ (i := 5) (N := some 59) (v := ?_) (a' := ?_) #[true, true, true, false, true, true, false, false, false, false, false, false, false, false, false, false] rfl rfl (by kernel_rfl) (fun _ _ _ h => h) (Or.inl ⟨by rfl, ?_⟩) ?_ ?_
          rotate_left
          · intro w'
            go_simp
            with_reducible rfl
          rotate_left
          · simp only [Act.put, List.setIfInBounds_toArray, List.set_cons_zero, List.set_cons_succ, i64_w, i32_w]
            rfl
          refine pure_ (i := 6) (N := some 60) (v := ?_) (a' := ?_) #[true, true, true, false, true, true, true, false, false, false, false, false, false, false, false, false] rfl rfl (by kernel_rfl) (fun _ _ _ h => h) (Or.inl ⟨by rfl, ?_⟩) ?_ ?_
          rotate_left
          · intro w'
            go_simp
            with_reducible rfl
          rotate_left
          · simp only [Act.put, List.setIfInBounds_toArray, List.set_cons_zero, List.set_cons_succ, i64_w, i32_w]
            rfl
          refine take_ (i := 7) (N := some 61) (v := ?_) (a' := ?_) #[true, true, true, false, true, true, true, true, false, false, false, false, false, false, false, false] rfl rfl (by kernel_rfl) (fun _ _ _ h => h) (Or.inl ⟨by rfl, ?_⟩) hHeld ?_ ?_
          rotate_left
          · rintro w' hS
            have hq0 := (hS.cell (World.block_lt_of_cell? _ _ HXs.out.1)).trans HXs.out.1
            have hq1 := (hS.cell (World.block_lt_of_cell? _ _ HXs.out.2.1)).trans HXs.out.2.1
            have hq2 := (hS.cell (World.block_lt_of_cell? _ _ HXs.out.2.2)).trans HXs.out.2.2
            simp only [s23] at hq0 hq1 hq2
            go_simp
            with_reducible rfl
          rotate_left
          · simp only [Act.put, List.setIfInBounds_toArray, List.set_cons_zero, List.set_cons_succ, i64_w, i32_w]
            rfl
          refine pure_ (i := 8) (N := some 62) (v := ?_) (a' := ?_) #[true, true, true, false, true, true, true, true, true, false, false, false, false, false, false, false] rfl rfl (by kernel_rfl) (fun _ _ _ h => h) (Or.inl ⟨by rfl, ?_⟩) ?_ ?_
          rotate_left
          · intro w'
            go_simp
            with_reducible rfl
          rotate_left
          · simp only [Act.put, List.setIfInBounds_toArray, List.set_cons_zero, List.set_cons_succ, i64_w, i32_w]
            rfl
          refine pure_ (i := 11) (N := some 65) (v := ?_) (a' := ?_) #[true, true, true, false, true, true, true, true, true, false, false, true, false, false, false, false] rfl rfl (by kernel_rfl) (fun _ _ _ h => h) (Or.inl ⟨by rfl, ?_⟩) ?_ ?_
          rotate_left
          · intro w'
            go_simp
            with_reducible rfl
          rotate_left
          · simp only [Act.put, List.setIfInBounds_toArray, List.set_cons_zero, List.set_cons_succ, i64_w, i32_w]
            rfl
          refine pure_ (i := 12) (N := some 66) (v := ?_) (a' := ?_) #[true, true, true, false, true, true, true, true, true, false, false, true, true, false, false, false] rfl rfl (by kernel_rfl) (fun _ _ _ h => h) (Or.inl ⟨by rfl, ?_⟩) ?_ ?_
          rotate_left
          · intro w'
            go_simp
            with_reducible rfl
          rotate_left
          · simp only [Act.put, List.setIfInBounds_toArray, List.set_cons_zero, List.set_cons_succ, i64_w, i32_w]
            rfl
          refine pure_ (i := 13) (N := some 67) (v := ?_) (a' := ?_) #[true, true, true, false, true, true, true, true, true, false, false, true, true, true, false, false] rfl rfl (by kernel_rfl) (fun _ _ _ h => h) (Or.inl ⟨by rfl, ?_⟩) ?_ ?_
          rotate_left
          · intro w'
            go_simp
            with_reducible rfl
          rotate_left
          · simp only [Act.put, List.setIfInBounds_toArray, List.set_cons_zero, List.set_cons_succ, i64_w, i32_w]
            rfl
          refine join_ (σ := Value × Nat) 3 #[true, true, true, true, true, true, true, true, true, true, false, true, true, true, false, false] (fun s => [(57, s.1), (63, .slice (some ⟨s.2, 0, none⟩) 1 1)]) (fun s w' => kT.R 49 w' w.heap.size (fun _ => True) s.1 ((oT o).take k) ∧ ReadsRow (fun y cs => cs = cellsT y) 4 w' (some ⟨s.2, 0, none⟩) 1 [taT (x, 1)] ∧ Below wd.heap.size wd w' ∧ (∀ k, s.1.ownBlock = some k → wd.heap.size ≤ k)) ?contA ?ordersA
          case ordersA =>
            intro J
            refine two_ (i := 3) (j := 9) (Ni := some 57) (Nj := some 63) #[true, true, true, true, true, true, true, true, true, false, false, true, true, true, false, false] #[true, true, true, false, true, true, true, true, true, true, false, true, true, true, false, false] rfl rfl rfl rfl (by kernel_rfl) (by decide) (by decide) (fun K hK => ?_) (fun K hK => ?_)
            · refine Kd.R_append_rows_step kT (Rr := fun z cs => cs = cellsT z) (w0 := w) w.heap.size (by rfl) (.const (.slice none 0 0)) (.tmp 56) 45 49 (.agg #[.int .i64 0, .int .i64 0, .int .i64 0, .int .i64 0]) 32 rfl Tryd.underlying45 info49 rfl (by decide) (by decide) (.slice none 0 0) [] ((oT o).take k) A3 k c3 (fun _ => True) (fun _ => False) (by rfl) (by rfl) (Kd.R_nil _ _ _ _ _) (rowC CT.out) (fun y cs h => by rw [h]; exact kT_mkM _ _ _ _) (fun _ h => h.elim) (fun _ _ => trivial) HBd.out HBd.out.size (by have := HLT.out; have := HLM.out; have := HLN.out; (try simp only [List.length_append, List.length_cons, List.length_nil]); omega) ?_
              intro v1 w1 ho hb hg hat
              have hs_ : Below wd.heap.size wd w1 := (Below.refl wd.heap.size wd).grown hg (Nat.le_refl _) (fun k hk => by cases hk)
              refine hK.out _ _ (below_then hsd hsd.size hs_) (fun _ => ?_)
              clear hK K
              refine norm_ (a' := ?_) ?_ ?_
              rotate_left
              · show Act.put _ (some 57) _ = _
                simp only [Act.put, List.setIfInBounds_toArray, List.set_cons_zero, List.set_cons_succ, i64_w, i32_w]
                rfl
              refine one_ (i := 9) (N := some 63) #[true, true, true, true, true, true, true, true, true, true, false, true, true, true, false, false] rfl rfl (by kernel_rfl) (by decide) (fun K hK => ?_)
              refine value_ (w1 := ?_) (v := ?_) (by rfl) rfl ?_ ?_
              rotate_left 2
              · go_simp
                constructor
                · rfl
                · rfl
              refine hK.out _ _ (below_then hsd hsd.size (below_alloc hs_ _)) (fun _ => ?_)
              clear hK K
              have ha_ : ∀ k, v1.ownBlock = some k → wd.heap.size ≤ k := fun k hk => by
                rcases hat with h | ⟨b, h, hl⟩
                · rw [hk] at h; cases h
                · rw [hk] at h; injection h with h; omega
              exact J (v1, w1.heap.size) _ ⟨Kd.R_alloc ho _, one_T (x := taT (x, 1)) (blk_new w1 _), below_alloc hs_ _, ha_⟩
            · refine value_ (w1 := ?_) (v := ?_) (by rfl) rfl ?_ ?_
              rotate_left 2
              · go_simp
                constructor
                · rfl
                · rfl
              refine hK.out _ _ (below_then hsd hsd.size (below_alloc (Below.refl wd.heap.size wd) _)) (fun _ => ?_)
              clear hK K
              refine norm_ (a' := ?_) ?_ ?_
              rotate_left
              · show Act.put _ (some 63) _ = _
                simp only [Act.put, List.setIfInBounds_toArray, List.set_cons_zero, List.set_cons_succ, i64_w, i32_w]
                rfl
              refine one_ (i := 3) (N := some 57) #[true, true, true, true, true, true, true, true, true, true, false, true, true, true, false, false] rfl rfl (by kernel_rfl) (by decide) (fun K hK => ?_)
              refine Kd.R_append_rows_step kT (Rr := fun z cs => cs = cellsT z) (w0 := w) w.heap.size (by rfl) (.const (.slice none 0 0)) (.tmp 56) 45 49 (.agg #[.int .i64 0, .int .i64 0, .int .i64 0, .int .i64 0]) 32 rfl Tryd.underlying45 info49 rfl (by decide) (by decide) (.slice none 0 0) [] ((oT o).take k) A3 k c3 (fun _ => True) (fun _ => False) (by rfl) (by rfl) (Kd.R_nil _ _ _ _ _) (rowC (Kd.C_alloc CT.out _)) (fun y cs h => by rw [h]; exact kT_mkM _ _ _ _) (fun _ h => h.elim) (fun _ _ => trivial) (below_alloc HBd.out _) (below_alloc HBd.out _).size (by have := HLT.out; have := HLM.out; have := HLN.out; (try simp only [List.length_append, List.length_cons, List.length_nil]); omega) ?_
              intro v1 w1 ho hb hg hat
              have hs_ : Below wd.heap.size wd w1 := (below_alloc (Below.refl wd.heap.size wd) _).grown hg (by simp) (fun k hk => by cases hk)
              refine hK.out _ _ (below_then hsd hsd.size hs_) (fun _ => ?_)
              clear hK K
              have ha_ : ∀ k, v1.ownBlock = some k → wd.heap.size ≤ k := fun k hk => by
                rcases hat with h | ⟨b, h, hl⟩
                · rw [hk] at h; cases h
                · rw [hk] at h; injection h with h; rw [World.size_alloc] at hl; omega
              exact J (v1, wd.heap.size) _ ⟨ho, one_T (x := taT (x, 1)) (blk_grown (blk_new wd _) hg (by simp [Value.ownBlock])), hs_, ha_⟩
          rintro ⟨u57, b63⟩ w5 ⟨ho5, hc63, hs5, ha5⟩
          simp only [putAll]
          refine norm_ (a' := ?_) ?_ ?_
          rotate_left
          · simp only [Act.put, List.setIfInBounds_toArray, List.set_cons_zero, List.set_cons_succ, i64_w, i32_w]
            rfl
          refine one_ (i := 10) (N := some 64) #[true, true, true, true, true, true, true, true, true, true, true, true, true, true, false, false] rfl rfl (by kernel_rfl) (by decide) (fun K hK => ?_)
          refine Kd.R_append_rows_step kT (Rr := fun z cs => cs = cellsT z) (w0 := w) w.heap.size (by rfl) (.tmp 57) (.tmp 63) 45 49 (.agg #[.int .i64 0, .int .i64 0, .int .i64 0, .int .i64 0]) 32 rfl Tryd.underlying45 info49 rfl (by decide) (by decide) u57 ((oT o).take k) [taT (x, 1)] (some ⟨b63, 0, none⟩) 1 1 (fun _ => True) (fun _ => False) (by rfl) (by rfl) ho5 hc63 (fun y cs h => by rw [h]; exact kT_mkM _ _ _ _) (fun _ h => h.elim) (fun _ _ => trivial) (below_then HBd.out HBd.out.size hs5) (below_then HBd.out HBd.out.size hs5).size (by have := HLT.out; have := HLM.out; have := HLN.out; (try simp only [List.length_append, List.length_cons, List.length_nil]); omega) ?_
          intro v6 w6 ho6 hb6 hg6 hat6
          have hs6 : Below wd.heap.size wd w6 := hs5.grown hg6 hs5.size (fun k hk => ha5 k hk)
          refine hK.out _ _ (below_then hsd hsd.size hs6) (fun _ => ?_)
          clear hK K
          refine norm_ (a' := ?_) ?_ ?_
          rotate_left
          · show Act.put _ (some 64) _ = _
            simp only [Act.put, List.setIfInBounds_toArray, List.set_cons_zero, List.set_cons_succ, i64_w, i32_w]
            rfl
          refine one_ (i := 14) (N := some 68) #[true, true, true, true, true, true, true, true, true, true, true, true, true, true, true, false] rfl rfl (by kernel_rfl) (by decide) (fun K hK => ?_)
          refine Kd.R_append_rows_step kT (Rr := fun z cs => cs = cellsT z) (w0 := w) w.heap.size (by rfl) (.tmp 64) (.tmp 67) 45 49 (.agg #[.int .i64 0, .int .i64 0, .int .i64 0, .int .i64 0]) 32 rfl Tryd.underlying45 info49 rfl (by decide) (by decide) v6 ((oT o).take k ++ [taT (x, 1)]) ((oT o).drop k) AD m2 cc2 (fun _ => True) (fun _ => False) (by rfl) (by rfl) ho6 (rowC (Kd.C_below CD.out hs6)) (fun y cs h => by rw [h]; exact kT_mkM _ _ _ _) (fun _ h => h.elim) (fun _ _ => trivial) hb6 hb6.size (by have := HLT.out; have := HLM.out; have := HLN.out; (try simp only [List.length_append, List.length_cons, List.length_nil]); omega) ?_
          intro v7 w7 ho7 hb7 hg7 hat7
          have hs7 : Below wd.heap.size wd w7 := hs6.grown hg7 hs6.size (fun k hk => by
            rcases hat6 with h | ⟨b, h, hl⟩
            · exact ha5 k (by rw [← h]; exact hk)
            · rw [hk] at h; injection h with h; have := hs5.size; omega)
          refine hK.out _ _ (below_then hsd hsd.size hs7) (fun _ => ?_)
          clear hK K
          refine norm_ (a' := ?_) ?_ ?_
          rotate_left
          · show Act.put _ (some 68) _ = _
            simp only [Act.put, List.setIfInBounds_toArray, List.set_cons_zero, List.set_cons_succ, i64_w, i32_w]
            rfl
          refine pure_ (i := 15) (N := some 3) (v := ?_) (a' := ?_) #[true, true, true, true, true, true, true, true, true, true, true, true, true, true, true, true] rfl rfl (by kernel_rfl) (fun _ _ _ h => h) (Or.inl ⟨by rfl, ?_⟩) ?_ ?_
          rotate_left
          · intro w'
            go_simp
            with_reducible rfl
          rotate_left
          · simp only [Act.put, List.setIfInBounds_toArray, List.set_cons_zero, List.set_cons_succ, i64_w, i32_w]
            rfl
          refine done_ (by kernel_rfl) ?_
          have HO7 := Aside0.mk ho7
          have HB7 := Aside0.mk hb7
          clear ho7 hb7 hs7 hs6 hs5 ho6 hb6 ho5 hc63 cutT cutF
          have HO8 : Aside0 (kT.R 49 w7 w.heap.size (fun _ => True) v7 (oT (tally ltv (ks.take (i + 1))))) := ⟨by
            have e1 : o.take k = o := List.take_of_length_le (by have := HKO.out; omega)
            have e2 : o.drop k = [] := List.drop_eq_nil_of_le (by have := HKO.out; omega)
            rw [HS.out, tins_end x o (fun z hz => HP.out z (by rw [e1]; exact hz))]
            have h := HO7.out
            have e3 : (oT o).take k ++ [taT (x, 1)] ++ (oT o).drop k = oT (o ++ [(x, 1)]) := by
              unfold oT
              rw [← List.map_take, ← List.map_drop, e1, e2]; simp
            rw [e3] at h
            exact h⟩
          clear HO7
          try go_wp2
          go_roundw
          case rel => exact ⟨i + 1, by go_num, by omega, HO8, HB7⟩
          case measure => simp [intOf]; omega
    · have e : ks.take i = ks := List.take_of_length_le (by omega)
      rw [e] at HO
      clear e
      go_wp2
      go_ret
      exact ⟨_, rfl, HO.out, HB.out⟩
end Go.Proofs.YtcpikafmclfcfaaDoor.Vn
end
section
namespace Go.Proofs.YtcpikafmclfcfaaDoor.Vr
open Go Go.RowKit
set_option linter.unusedVariables false
set_option linter.unusedSimpArgs false
variable {F : Fence} {n : Nat} {P : Program}
theorem set_other {j Bs : Nat} (W : World) (v : Value) (h : Bs ≠ j) : (W.setCell ⟨Bs, 0, none⟩ v).heap[j]? = W.heap[j]? := Below.heap_setCell W ⟨Bs, 0, none⟩ v j (by simpa using h.symm)
def SeqStopsS {α : Type} (F : Fence) (n : Nat) (P : Program) (g : Nat) (lb : Array Value) (encs : α → Array Value) (Kp : World → World → Prop) (S Sp : List α → Prop) (N : Nat) (Bs : Nat) (w : World) : Prop :=
  ∀ (l : Nat) (J Jx : List α → World → Prop) (W : World), Below w.heap.size w W → AbidesFrom W.heap.size J → AbidesFrom W.heap.size Jx →
    (∀ s A v, J s A → J s (A.setCell ⟨Bs, 0, none⟩ v)) → (∀ s A v, Jx s A → Jx s (A.setCell ⟨Bs, 0, none⟩ v)) →
    (∀ pre x W1, J pre W1 → pre.length < N → YieldAt F (n - 1) P l (encs x) W1 fun e W' =>
      (e = .returned (.bool true) ∧ J (pre ++ [x]) W' ∧ Kp W1 W') ∨ (e = .returned (.bool false) ∧ Jx (pre ++ [x]) W')) →
    J [] W →
    CallsIn F n P g (#[.func (.yield l) #[] #[]] ++ lb) W fun e W' => (∃ v, e = .returned v) ∧ ((∃ xs, S xs ∧ J xs W') ∨ (∃ pre, Sp pre ∧ Jx pre W'))
theorem wpIn_rangeFunc_ownS {α : Type} {g : Operand} {ps : Array Tmp} {assign body : Code} {Q : Exit → Act → World → Prop} {a : Act} {w : World}
    (hro : F.round = none) (h1 : 1 ≤ n) {gf : Nat} {lb : Array Value} (hg : a.eval g = .func (.func gf) #[] lb) (hFg : F.fn gf) (eg : ∀ args w, (callFunc gf args).run P w = .ok (.enter gf args) w)
    {encs : α → Array Value} {Kp : World → World → Prop} {S Sp : List α → Prop} {N : Nat} {w0 : World} {Bs : Nat} (hBs : Bs < w.heap.size) (hseq : SeqStopsS F (n - 1) P gf lb encs Kp S Sp N Bs w0)
    (hKt : ∀ {A B C : World}, Kp A B → Kp B C → Kp A C) (hKb : ∀ (W : World) (l : Nat) (o o' : Obj), w.heap.size ≤ l → W.heap[l]? = some o → o.isCells = false → o.isWalk = false → Kp W (W.putObj l o')) (hb0 : Below w0.heap.size w0 w) (hps : ∀ x, (encs x).size = ps.size)
    (I : List α → World → Prop) (Ix : Code → List α → World → Prop) (hI : OwnFrom w.heap.size I) (hIx : ∀ c, OwnFrom w.heap.size (Ix c)) (hIs : ∀ s W v, I s W → I s (W.setCell ⟨Bs, 0, none⟩ v)) (hIxs : ∀ c s W v, Ix c s W → Ix c s (W.setCell ⟨Bs, 0, none⟩ v)) (h0 : I [] w) (a₁ : α → Act)
    (hassign : ∀ (l : Nat) (x : α) (W : World) (K : Act → World → Prop), K (a₁ x) W →
      assign.wpIn (F.inRound l) (n - 1 - 1) P (Exit.then K (fun _ _ _ => False)) { tmps := (ps.zip (encs x)).foldl (fun t (p, v) => t.setIfInBounds p v) a.tmps, defers := [] } W)
    (hbody : ∀ (l : Nat) (pre : List α) (x : α) (W : World), I pre W → pre.length < N → body.wpIn (F.inRound l) (n - 1 - 1) P (ownPostK Kp I Ix (pre ++ [x]) W) (a₁ x) W)
    (hdone : ∀ (D : Nat) (xs : List α) (W : World), w.heap.size ≤ D → S xs → I xs W → W.heap[D]? = some (.deferred (some [])) → Q .normal { a with defers := { target := .collected D, args := #[] } :: a.defers } W)
    (hstop : ∀ (D : Nat) (c : Code) (pre : List α) (W : World), w.heap.size ≤ D → Sp pre → Ix c pre W → W.heap[D]? = some (.deferred (some [])) → c.wpIn F n P Q { a with defers := { target := .collected D, args := #[] } :: a.defers } W) :
    (Code.rangeFunc g ps assign body).wpIn F n P Q a w := by
  refine wpIn_rangeFunc ?_
  intro fn hfn
  rw [hro]
  obtain ⟨rec, hrec⟩ : ∃ rec : LoopState → Option Code → Loop, rec = fun st pe => { state := st, pending := pe, fn, tmps := a.tmps, params := ps, assign, body, defers := w.heap.size } := ⟨_, rfl⟩
  obtain ⟨W1, hW1⟩ : ∃ W1, (w.alloc (.deferred (some []))).alloc (.loop (rec .ready none)) = W1 := ⟨_, rfl⟩
  have hL1 : W1.heap[w.heap.size + 1]? = some (.loop (rec .ready none)) := by
    rw [← hW1]; have := World.alloc_heap_new (w.alloc (.deferred (some []))) (.loop (rec .ready none)); rwa [World.size_alloc] at this
  have hK1 : W1.heap[w.heap.size]? = some (.deferred (some [])) := by
    rw [← hW1]; exact (Below.heap_alloc _ _ _ (by simp)).trans (World.alloc_heap_new w _)
  have hI1 : I [] W1 := by rw [← hW1]; exact hI.alloc _ (hI.alloc _ h0)
  have hb1 : Below w0.heap.size w0 W1 := by
    rw [← hW1]; exact hb0.trans ((((Below.refl _ w).alloc (Nat.le_refl _) _).alloc (by simp) _).mono hb0.size)
  refine ⟨w.heap.size + 1, [{ target := .collected w.heap.size, args := #[] }], W1, { target := .fn (.func gf) lb, args := #[.func (.yield (w.heap.size + 1)) #[] #[]] }, W1, gf,
    #[.func (.yield (w.heap.size + 1)) #[] #[]] ++ lb, W1, ?_, ?_, ?_, ?_, fun _ => h1, ?_⟩
  · rw [← hW1, hrec]; exact run_enterLoop_outer _ _ _ _ _
  · simp only [resolve, hg]
    simp [go_sem]
  · intro f' hf'; simp [Target.leads] at hf'; subst hf'; exact hFg
  · simp [invoke, go_sem, eg]
  · 
    have hnw : ∀ {A B : World} {row : Option Nat}, (∀ r, row = some r → W1.heap.size ≤ r ∧ ∃ o : Obj, A.heap[r]? = some o ∧ o.isWalk = true) → (∀ r, row = some r → w.heap.size ≤ r ∧ ∃ o : Obj, A.heap[r]? = some o ∧ o.isCells = false) :=
      fun hr r e => by obtain ⟨hB, o, ho, hw⟩ := hr r e; exact ⟨by rw [← hW1] at hB; simp at hB; omega, o, ho, Obj.not_cells_of_walk hw⟩
    refine (hseq (w.heap.size + 1)
      (fun pre W => I pre W ∧ W.heap[w.heap.size + 1]? = some (.loop (rec .ready none)) ∧ W.heap[w.heap.size]? = some (.deferred (some [])))
      (fun pre W => ∃ c, Ix c pre W ∧ W.heap[w.heap.size + 1]? = some (.loop (rec .done (some c))) ∧ W.heap[w.heap.size]? = some (.deferred (some [])))
      W1 hb1
      (fun s A B row hs hg' hr => ⟨hI s A B row hs.1 hg' (hnw (B := B) hr), (grownBy_keeps hg' (fun r e => (hr r e).2) hs.2.1 rfl).trans hs.2.1, (grownBy_keeps hg' (fun r e => (hr r e).2) hs.2.2 rfl).trans hs.2.2⟩)
      (fun s A B row hs hg' hr => by
        obtain ⟨c, hc, hl, hk⟩ := hs
        exact ⟨c, hIx c s A B row hc hg' (hnw (B := B) hr), (grownBy_keeps hg' (fun r e => (hr r e).2) hl rfl).trans hl, (grownBy_keeps hg' (fun r e => (hr r e).2) hk rfl).trans hk⟩)
      (fun s A v hs => ⟨hIs s A v hs.1, (set_other A v (by omega)).trans hs.2.1, (set_other A v (by omega)).trans hs.2.2⟩)
      (fun s A v hs => by
        obtain ⟨c, hc, hl, hk⟩ := hs
        exact ⟨c, hIxs c s A v hc, (set_other A v (by omega)).trans hl, (set_other A v (by omega)).trans hk⟩)
      ?_ ⟨hI1, hL1, hK1⟩).mono ?_
    · rintro pre x W ⟨hi, hl, hk⟩ hlen
      have hlt : w.heap.size + 1 < W.heap.size := (Array.getElem?_eq_some_iff.1 hl).1
      have hy := run_yield (P := P) (args := encs x) hl (by rw [hrec]; exact hps x)
      rw [hrec] at hy
      refine ⟨fn, _, assign, body, hy, roundIn_of_wpIn hfn (hassign _ x W _ ⟨_, run_beginRound hl (by rw [hrec]), ?_⟩)⟩
      have hl2 : (W.putObj (w.heap.size + 1) (.loop { rec .ready none with state := .busy })).heap[w.heap.size + 1]? = some (.loop { rec .ready none with state := .busy }) := World.putObj_heap_same hlt
      have hk2 : (W.putObj (w.heap.size + 1) (.loop { rec .ready none with state := .busy })).heap[w.heap.size]? = some (.deferred (some [])) := (World.putObj_heap_other (by omega)).trans hk
      have hw2 : Kp W (W.putObj (w.heap.size + 1) (.loop { rec .ready none with state := .busy })) := hKb _ _ _ _ (by omega) hl rfl rfl
      refine wpIn_mono (hbody _ pre x _ (hI.putObj _ hi (by omega) hl rfl) hlen) ?_
      have fin : ∀ (jump : Option Code) (W3 : World), KeepsOthers (W.putObj (w.heap.size + 1) (.loop { rec .ready none with state := .busy })) W3 →
          (Instr.endRound (w.heap.size + 1) jump).run P W3 = .ok (.bool jump.isNone) (W3.putObj (w.heap.size + 1) (.loop (rec (if jump.isNone then .ready else .done) jump))) ∧
          W3.heap[w.heap.size + 1]? = some (.loop { rec .ready none with state := .busy }) ∧
          (W3.putObj (w.heap.size + 1) (.loop (rec (if jump.isNone then .ready else .done) jump))).heap[w.heap.size + 1]? = some (.loop (rec (if jump.isNone then .ready else .done) jump)) ∧
          (W3.putObj (w.heap.size + 1) (.loop (rec (if jump.isNone then .ready else .done) jump))).heap[w.heap.size]? = some (.deferred (some [])) := fun jump W3 hk3 => by
        have hl3 := hk3.same _ _ hl2 rfl
        have := run_endRound (P := P) jump hl3
        rw [hrec] at this ⊢
        exact ⟨this, by rw [hrec] at hl3; exact hl3, World.putObj_heap_same (Array.getElem?_eq_some_iff.1 hl3).1, (World.putObj_heap_other (by omega)).trans (hk3.same _ _ hk2 rfl)⟩
      rintro e a3 W3 hp
      cases e with
      | normal =>
        obtain ⟨hk3, hkp3, hi3⟩ := hp
        obtain ⟨hr, hl3, hl4, hk4⟩ := fin none W3 hk3
        exact ⟨_, _, hr, .inl ⟨rfl, ⟨hI.putObj _ hi3 (by omega) hl3 rfl, hl4, hk4⟩, hKt (hKt hw2 hkp3) (hKb _ _ _ _ (by omega) hl3 rfl rfl)⟩⟩
      | ret =>
        obtain ⟨hk3, hi3⟩ := hp
        obtain ⟨hr, hl3, hl4, hk4⟩ := fin (some .ret) W3 hk3
        exact ⟨_, _, hr, .inr ⟨rfl, .ret, (hIx _).putObj _ hi3 (by omega) hl3 rfl, hl4, hk4⟩⟩
      | exit id =>
        obtain ⟨hk3, hi3⟩ := hp
        obtain ⟨hr, hl3, hl4, hk4⟩ := fin (some (.exit id)) W3 hk3
        exact ⟨_, _, hr, .inr ⟨rfl, .exit id, (hIx _).putObj _ hi3 (by omega) hl3 rfl, hl4, hk4⟩⟩
      | goto t =>
        obtain ⟨hk3, hi3⟩ := hp
        obtain ⟨hr, hl3, hl4, hk4⟩ := fin (some (.goto t)) W3 hk3
        exact ⟨_, _, hr, .inr ⟨rfl, .goto t, (hIx _).putObj _ hi3 (by omega) hl3 rfl, hl4, hk4⟩⟩
      | panic ch => exact hp.elim
      | outgrown => exact hp.elim
    · rintro e W2 ⟨⟨v, rfl⟩, (⟨xs, hS, hi, hl, hk⟩ | ⟨pre, hSp, c, hi, hl, hk⟩)⟩
      · exact ⟨none, _, by have := run_endLoop (P := P) hl (by rw [hrec]; simp); rw [hrec] at this; exact this, hdone _ xs _ (Nat.le_refl _) hS (hI.putObj _ hi (by omega) hl rfl) ((World.putObj_heap_other (by omega)).trans hk)⟩
      · exact ⟨some c, _, by have := run_endLoop (P := P) hl (by rw [hrec]; simp); rw [hrec] at this; exact this, hstop _ c pre _ (Nat.le_refl _) hSp ((hIx c).putObj _ hi (by omega) hl rfl) ((World.putObj_heap_other (by omega)).trans hk)⟩
end Go.Proofs.YtcpikafmclfcfaaDoor.Vr
end
