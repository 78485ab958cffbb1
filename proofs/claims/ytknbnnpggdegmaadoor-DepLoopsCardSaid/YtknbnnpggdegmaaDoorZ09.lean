/- Whether any job waits for itself, over any edges, is told by dep.Loop as the document tells it. -/
import Derived.Test.YtknbnnpggdegmaaDoorZ05
import Derived.Test.YtknbnnpggdegmaaDoorZ06
import Derived.Test.YtknbnnpggdegmaaDoorZ08
import Derived.Test.YtknbnnpggdegmaaDoorZ04
import Derived.Test.YtknbnnpggdegmaaDoorRows
import Derived.Test.YtknbnnpggdegmaaDoorCards
import Derived.Test.YtknbnnpggdegmaaDoorTie
import Derived.Test.YtknbnnpggdegmaaDoorZ03
import Derived.Lay
import Derived.WalkKit
import Derived.ProofKit
import Derived.OpenShut
import Derived.ShutString
import Derived.ChangeOld
import Derived.Below
import Derived.Carry
import Derived.SizedLaws
import Derived.Deep.DeepHandedRow
import Derived.Deep.DeepWitnessRowRef
import Derived.Stop.LaidErr
import Derived.Lib.LaidTab
import Derived.LaidMore
section
namespace Go.Proofs.YtknbnnpggdegmaaDoor.Lp
open Go.RowKit Go.Proofs.YtknbnnpggdegmaaDoor.Lib Go.Proofs.YtknbnnpggdegmaaDoorW.PrintWords Go.Proofs.YtknbnnpggdegmaaDoorW.PrintLast Go.Proofs.YtknbnnpggdegmaaDoorW.PrintMore Go.Proofs.YtknbnnpggdegmaaDoor.PD Go.Proofs.YtknbnnpggdegmaaDoor.Mp Go.Proofs.YtknbnnpggdegmaaDoor.Reach
set_option linter.unusedVariables false
set_option linter.unusedSimpArgs false
abbrev zero31v : Value := .agg #[.bool false, .slice none 0 0]
theorem dsE_snoc (cv : S46 → S52) (ks : List PL.S62) (e : PL.S62) (h : e.f0 ∉ ks.map (·.f0)) (n : Int) : dsE cv (ks ++ [e]) n = if n = e.f0 then e.f1.f1.map cv else dsE cv ks n := by
  unfold dsE
  rw [List.filter_append, List.flatMap_append, List.map_append, List.filter_cons, List.filter_nil]
  by_cases he : n = e.f0
  · subst he
    rw [if_pos (decide_eq_true rfl), if_pos rfl]
    have : ks.filter (fun x => decide (x.f0 = e.f0)) = [] := by
      rw [List.filter_eq_nil_iff]
      intro x hx hc
      exact h ((of_decide_eq_true hc : x.f0 = e.f0) ▸ List.mem_map_of_mem hx)
    rw [this]; simp
  · rw [if_neg he, if_neg (by simpa using fun hh : e.f0 = n => he hh.symm)]; simp
theorem dsE_few (cv : S46 → S52) (hcv : ∀ x, (cv x).f1 = x.f1) (ks : List PL.S62) (hn : (ks.map (·.f0)).Nodup) (hf : ∀ e ∈ ks, e.f1.f1.length ≤ 60 ∧ ∀ x ∈ e.f1.f1, x.f1.length ≤ 300) (n : Int) : (dsE cv ks n).length ≤ 60 ∧ ∀ x ∈ dsE cv ks n, x.f1.length ≤ 300 := by
  have h1 := filter_one ks hn n
  have h2 : ∀ e ∈ ks.filter (fun e => decide (e.f0 = n)), e ∈ ks := fun e he => (List.mem_filter.1 he).1
  unfold dsE
  generalize ks.filter (fun e => decide (e.f0 = n)) = fs at h1 h2
  constructor
  · cases fs with
    | nil => simp
    | cons e fs =>
      cases fs with
      | nil => simpa using (hf e (h2 e (by simp))).1
      | cons e2 fs => simp at h1
  · intro x hx
    obtain ⟨y, hy, rfl⟩ := List.mem_map.1 hx
    obtain ⟨e, he, hye⟩ := List.mem_flatMap.1 hy
    rw [hcv]
    exact (hf e (h2 e he)).2 y hye
structure Inv (w : World) (l : List PL.S62) (i : Nat) (ks : List PL.S62) (v6 : Value) (F : Int → Option Value) (wr : World) : Prop where mk ::
  bel : Below w.heap.size w wr
  mm : RawOf KI wr w.heap.size i F
  has : ∀ id, (F id).isSome = decide (id ∈ ks.map (·.f0))
  val : ∀ id, ∃ any A c, (F id).getD zero31v = .agg #[.bool any, .slice A (dsE At.cv ks id).length c] ∧ Kd.V k52 52 wr 0 (fun k => k ≠ w.heap.size ∧ some k ≠ v6.ownBlock) (.slice A (dsE At.cv ks id).length c) (dsE At.cv ks id)
  row : Kd.N PL.k62 62 wr w.heap.size (fun k => k ≠ w.heap.size) v6 ks
  nd : (ks.map (·.f0)).Nodup
  sub : ∀ e ∈ ks, e ∈ l
  few : ∀ e ∈ ks, e.f1.f1.length ≤ 60 ∧ ∀ x ∈ e.f1.f1, x.f1.length ≤ 300
  cnt : ks.length ≤ i
variable {w wr wr' : World} {l : List PL.S62} {i : Nat} {ks : List PL.S62} {v6 : Value} {F : Int → Option Value}
theorem Inv.below (h : Inv w l i ks v6 F wr) (hb : Below wr.heap.size wr wr') : Inv w l i ks v6 F wr' :=
  ⟨below_then h.bel h.bel.size hb, h.mm.below hb, h.has, fun id => by
    obtain ⟨any, A, c, h1, h2⟩ := h.val id
    exact ⟨any, A, c, h1, Kd.V_below h2 hb⟩, Kd.N_below h.row hb, h.nd, h.sub, h.few, h.cnt⟩
theorem Inv.alloc (h : Inv w l i ks v6 F wr) (o : Obj) : Inv w l i ks v6 F (wr.alloc o) := h.below (below_alloc (Below.refl _ _) o)
theorem Inv.mono (h : Inv w l i ks v6 F wr) {j : Nat} (hj : i ≤ j) : Inv w l j ks v6 F wr :=
  ⟨h.bel, h.mm.mono hj, h.has, h.val, h.row, h.nd, h.sub, h.few, Nat.le_trans h.cnt hj⟩
theorem Inv.start (w : World) (l : List PL.S62) : Inv w l 0 [] (.slice none 0 0) (fun _ => none) (w.alloc (.map #[] 0)) :=
  ⟨below_alloc (Below.refl _ _) _, RawOf.made w, fun id => by simp, fun id => ⟨false, none, 0, rfl, Kd.V_nil _ _ _ _ _⟩, Kd.N_nil _ _ _ _ _, by simp, fun e he => absurd he List.not_mem_nil, fun e he => absurd he List.not_mem_nil, Nat.le_refl _⟩
theorem Inv.put (h : Inv w l i ks v6 F wr) (hi : i < 100) (e : PL.S62) (hw : (Lit.int .i64 e.f0).wf = true) (hn : e.f0 ∉ ks.map (·.f0)) (he : e ∈ l) (hfew : e.f1.f1.length ≤ 60 ∧ ∀ x ∈ e.f1.f1, x.f1.length ≤ 300)
    (any : Bool) (A : Option Addr) (c : Nat) (hv : Kd.V k52 52 wr 0 (fun k => k ≠ w.heap.size ∧ some k ≠ v6.ownBlock) (.slice A (e.f1.f1.map At.cv).length c) (e.f1.f1.map At.cv)) :
    ∃ w', (Instr.mapUpdate 60 (.map (some w.heap.size)) (.int .i64 e.f0) (.agg #[.bool any, .slice A (e.f1.f1.map At.cv).length c])).run Tryd.prog wr = .ok () w' ∧ wr.grownBy w' (some w.heap.size) ∧
      Below w.heap.size w w' ∧ Kd.N PL.k62 62 w' w.heap.size (fun k => k ≠ w.heap.size) v6 ks ∧
      ∀ v1 w1, Kd.N PL.k62 62 w1 w.heap.size (fun k => k ≠ w.heap.size) v1 (ks ++ [e]) → Below w.heap.size w w1 → w'.grownBy w1 v6.ownBlock → (v1.ownBlock = v6.ownBlock ∨ ∃ b, v1.ownBlock = some b ∧ w'.heap.size ≤ b) →
        Inv w l (i + 1) (ks ++ [e]) v1 (fun k' => if k' = e.f0 then some (.agg #[.bool any, .slice A (e.f1.f1.map At.cv).length c]) else F k') w1 := by
  obtain ⟨w', hr, hm, hg⟩ := h.mm.update (t := 60) Tryd.underlying60 (Nat.lt_trans hi (by decide)) (k := e.f0) hw (.agg #[.bool any, .slice A (e.f1.f1.map At.cv).length c])
  have hbel : Below w.heap.size w w' := h.bel.grown hg h.bel.size (fun q hq => by rw [← Option.some.inj hq]; exact Nat.le_refl _)
  have hrow : Kd.N PL.k62 62 w' w.heap.size (fun k => k ≠ w.heap.size) v6 ks := Kd.N_grown h.row hg (fun k hk he => hk (Option.some.inj he))
  refine ⟨w', hr, hg, hbel, hrow, fun v1 w1 hN hB hg1 hat => ?_⟩
  have hne : some w.heap.size ≠ v6.ownBlock := fun he => by
    obtain ⟨cells, hc⟩ := Kd.N_typed hrow _ he.symm
    exact hm.noCells hc
  have step : ∀ {v : Value} {xs : List S52}, Kd.V k52 52 wr 0 (fun k => k ≠ w.heap.size ∧ some k ≠ v6.ownBlock) v xs → Kd.V k52 52 w1 0 (fun k => k ≠ w.heap.size ∧ some k ≠ v1.ownBlock) v xs := fun hV =>
    Kd.V_afterv (v := v6) (Kd.V_grown hV hg (fun k hk he => hk.1 (Option.some.inj he))) hg1 hat
  refine ⟨hB, hm.grown hg1 hne, fun id => ?_, fun id => ?_, hN, ?_, ?_, ?_, ?_⟩
  · by_cases hid : id = e.f0
    · subst hid; rw [if_pos rfl]; simp
    · rw [if_neg hid, h.has id]; simp [hid]
  · rw [dsE_snoc At.cv ks e hn id]
    by_cases hid : id = e.f0
    · rw [if_pos hid, if_pos hid]
      exact ⟨any, A, c, rfl, step hv⟩
    · rw [if_neg hid, if_neg hid]
      obtain ⟨any2, A2, c2, h1, h2⟩ := h.val id
      exact ⟨any2, A2, c2, h1, step h2⟩
  · rw [List.map_append, List.nodup_append]
    refine ⟨h.nd, by simp, fun a ha b hb => ?_⟩
    simp only [List.map_cons, List.map_nil, List.mem_singleton] at hb
    rintro rfl
    exact hn (hb ▸ ha)
  · intro x hx
    rcases List.mem_append.1 hx with hx | hx
    · exact h.sub x hx
    · rw [List.mem_singleton.1 hx]; exact he
  · intro x hx
    rcases List.mem_append.1 hx with hx | hx
    · exact h.few x hx
    · rw [List.mem_singleton.1 hx]; exact hfew
  · have := h.cnt
    simp only [List.length_append, List.length_cons, List.length_nil]
    omega
structure FitE (l : List PL.S62) : Prop where mk ::
  wf : ∀ e ∈ l, (Lit.int .i64 e.f0).wf = true ∧ ∀ x ∈ e.f1.f1, ∀ y ∈ x.f1, (Lit.int .i64 y).wf = true
theorem Inv.deps (h : Inv w l i ks v6 F wr) (hi : i ≤ 60) (hl : FitE l) : Deps wr w.heap.size i F (dsE At.cv ks) (allE ks) :=
  ⟨h.mm, fun id => by
    obtain ⟨any, A, c, h1, h2⟩ := h.val id
    obtain ⟨_, h3, h4⟩ := Kd.V_reads' h2
    exact ⟨any, A, c, h1, h3, h4⟩, fun id => dsE_few At.cv (fun _ => rfl) ks h.nd h.few id, fun id k hk => by
    rw [nb_same At.cv (fun _ => rfl) ks h.nd] at hk
    have ha := nbE_all ks id k hk
    refine ⟨?_, ha⟩
    obtain ⟨e, he, hk2⟩ := List.mem_flatMap.1 ha
    have : k ∈ Jb.allJobs e.f1.f1 := ((Jb.sorted_spec (Jb.allJobs e.f1.f1)).2 k).1 hk2
    unfold Jb.allJobs at this
    obtain ⟨x, hx, hkx⟩ := List.mem_flatMap.1 this
    exact (hl.wf e (h.sub e he)).2 x hx k hkx, allE_le ks ⟨Nat.le_trans h.cnt hi, h.few⟩⟩
end Go.Proofs.YtknbnnpggdegmaaDoor.Lp
end
section
namespace Go.Proofs.YtknbnnpggdegmaaDoor.Lp
open Go.RowKit Go.Proofs.YtknbnnpggdegmaaDoor.Lib Go.Proofs.YtknbnnpggdegmaaDoorW.PrintWords Go.Proofs.YtknbnnpggdegmaaDoorW.PrintLast Go.Proofs.YtknbnnpggdegmaaDoorW.PrintMore Go.Proofs.YtknbnnpggdegmaaDoor.PD Go.Proofs.YtknbnnpggdegmaaDoor.Mp Go.Proofs.YtknbnnpggdegmaaDoor.Reach Go.Proofs.YtknbnnpggdegmaaDoor.At
attribute [local go_sem] max2_int min2_int max_two min_two max_three min_three max_four min_four
set_option linter.unusedVariables false
set_option linter.unusedSimpArgs false
theorem info62 : (Tryd.prog.info? 62).map (fun i => (i.zero, i.size, i.bytes)) = some (some (.agg #[(.int .i64 0), (.bool false), (.slice none 0 0)]), 3, 40) := by kernel_rfl
section
variable {P : Program} {ops : Array Oper} {Q : Exit → Act → World → Prop}
theorem upd_ {oi : Oper} {a : Act} {w w' : World} {K : Act → World → Prop} {t : TypeId} {m x v : Operand} {mv xv vv : Value} (hw : Region.wanted oi (yielded ops a.tmps) = true) (hN : oi.dst = none) (hop : oi.op = .mapUpdate t m x v) (hm : a.eval m = mv) (hx : a.eval x = xv) (hv : a.eval v = vv)
    (hrun : (Instr.mapUpdate t mv xv vv).run P w = .ok () w') (h : K (a.put none undef) w') : if Region.wanted oi (yielded ops a.tmps) = true then Oper.wp P oi a w K Q else K (a.put none undef) w := by
  rw [if_pos hw]
  unfold Oper.wp
  subst hm hx hv
  simp [execOp, hop, hrun, Result.andThen]
  show K (a.put oi.dst undef) w'
  rw [hN]
  exact h
end
theorem V46b {w wd : World} {A : Option Addr} {c : Nat} {l : List S46} (hr : Kd.C k46 w A l.length l) (hc : l.length ≤ c) (hb : Below w.heap.size w wd) : Kd.V k46 46 wd wd.heap.size (fun k => k < w.heap.size) (.slice A l.length c) l := by
  have h := Kd.V_below (V46 hr hc) hb
  exact h
theorem Inv.fresh {w wd w3 : World} {l : List PL.S62} {i : Nat} {ks : List PL.S62} {v6 : Value} {F : Int → Option Value} (h : Inv w l i ks v6 F wd) {v : Value} {xs : List S52} (hN : Kd.N k52 52 w3 wd.heap.size (fun k => k < w.heap.size ∨ wd.heap.size ≤ k) v xs) : Kd.V k52 52 w3 0 (fun k => k ≠ w.heap.size ∧ some k ≠ v6.ownBlock) v xs :=
  Kd.V_mono (Kd.N_V hN) (fun k hk => by
    have hlt := h.mm.lt
    refine ⟨by rcases hk with hk | hk <;> omega, fun he => ?_⟩
    have h1 := Kd.N_base h.row k he.symm
    have h2 := Kd.N_lt h.row k he.symm
    rcases hk with hk | hk <;> omega)
set_option maxHeartbeats 40000000 in
set_option maxRecDepth 100000 in
theorem loops_calls (A : Option Addr) (c : Nat) (l : List PL.S62) (src : Int) (w : World) (hr : Kd.C PL.k62 w A l.length l) (hc : l.length ≤ c) (hl : FitE l) (hs : (Lit.int .i64 src).wf = true) (hG : Glob w) :
    Calls Tryd.prog 9 #[.slice A l.length c, .int .i64 src] w fun e w' => e = .returned (.bool true) ∧ Below w.heap.size w w' := by
  have HR := Aside0.mk hr
  have HC := Aside0.mk hc
  have HF := Aside0.mk hl
  have HS := Aside0.mk hs
  have HG := Aside0.mk hG
  have HNL := Aside0.mk hr.2.1
  have hu24 := Tryd.underlying24
  have hu31 := Tryd.underlying31
  have hu62 := Tryd.underlying62
  have hmm := @run_makeMap Tryd.prog
  clear hr hc hl hs hG
  obtain ⟨m, hm⟩ : ∃ m : Nat, (if 60 < (l.length : Int) then 60 else (l.length : Int)) = (m : Int) := ⟨min l.length 60, by split <;> omega⟩
  have M60 : m ≤ 60 := by split at hm <;> omega
  have ML : m ≤ l.length := by split at hm <;> omega
  have hmc : (m : Int) ≤ (c : Int) := by have := HC.out; omega
  have hmcn : m ≤ c := by omega
  go_enter Tryd.func9, Tryd.ntmps9
  go_wp2_with fail
  clear hm hmc hmcn
  go_loopw [6, 18] (fun v6 v18 wr => ∃ (i : Nat) (ks : List PL.S62) (F : Int → Option Value), v18 = .int .i64 i ∧ i ≤ m ∧ Aside0 (Inv w l i ks v6 F wr)) (fun _ v18 _ => m - (intOf v18).toNat)
  case atStart => exact ⟨0, [], _, rfl, Nat.zero_le _, ⟨Inv.start w l⟩⟩
  case round =>
    obtain ⟨i, ks, F, rfl, hi, HI⟩ := hrel
    have LT : Aside0 (w.heap.size < wr.heap.size) := ⟨HI.out.mm.lt⟩
    by_cases hlt : i < m
    · obtain ⟨ad, A2, c2, rfl, hx0, hx1, hx2, hc2, hk2⟩ := PL.at_T62 HR.out i (by omega) (by omega)
      rw [Int.toNat_natCast] at hx0 hx1 hx2
      rw [rd62 l i (by omega)] at hx0 hx1 hx2 hc2 hk2
      obtain ⟨e, he⟩ : ∃ e, l[i] = e := ⟨_, rfl⟩
      have HE : Aside0 (e ∈ l) := ⟨he ▸ List.getElem_mem _⟩
      rw [he] at hx0 hx1 hx2 hc2 hk2
      clear he
      have HC2 := Aside0.mk hc2
      have HK2 := Aside0.mk hk2
      have HBr := Aside0.mk HI.out.bel
      replace hx0 := (HBr.out.cell (World.block_lt_of_cell? w _ hx0)).trans hx0
      replace hx1 := (HBr.out.cell (World.block_lt_of_cell? w _ hx1)).trans hx1
      replace hx2 := (HBr.out.cell (World.block_lt_of_cell? w _ hx2)).trans hx2
      clear hc2 hk2
      obtain ⟨b, hb⟩ : ∃ b, (if e.f1.f1.length > 60 then true else decide (msum (e.f1.f1.take 100) > 300)) = b := ⟨_, rfl⟩
      have MU := Aside0.mk (show marlinspikelaw07_much.f 101 e.f1.f0 e.f1.f1 = some b by rw [much_f' e.f1.f0 e.f1.f1 101 (Nat.le_refl _), hb])
      have MF := Aside0.mk hb
      clear hb
      go_wp2_with fail
      refine (marlinspikelaw07_much.calls 101 e.f1.f0 A2 c2 e.f1.f1 b _ ?r1 HC2.out MU.out).mono ?_
      case r1 => exact Kd.C_alloc (Kd.C_below HK2.out HBr.out) _
      rintro e1 w1 ⟨rfl, hb⟩
      have HI1 := Aside0.mk ((HI.out.alloc (.cells #[.int .i64 e.f0, .bool e.f1.f0, .slice A2 e.f1.f1.length c2] 62)).below hb)
      have BK := Aside0.mk (blk_below (blk_new wr (.cells #[.int .i64 e.f0, .bool e.f1.f0, .slice A2 e.f1.f1.length c2] 62)) hb)
      clear hb HI HBr hx0 hx1 hx2
      cases b
      case true =>
        go_wp2_with fail
        refine (alive_calls _ (HG.out.below HI1.out.bel)).mono ?_
        rintro e2 w2 ⟨rfl, hb⟩
        have HB2 := Aside0.mk (below_then HI1.out.bel HI1.out.bel.size hb)
        clear hb
        go_wp2
        go_ret
        exact ⟨rfl, HB2.out⟩
      have HFEW := Aside0.mk (much_false MF.out)
      clear MF MU
      have W0 := Aside0.mk (HF.out.wf e HE.out).1
      have hy0 : w1.cell? ⟨wr.heap.size, 0, none⟩ = some (.int .i64 e.f0) := (blk_cell BK.out 0).trans rfl
      have hy1 : w1.cell? ⟨wr.heap.size, 1, none⟩ = some (.bool e.f1.f0) := (blk_cell BK.out 1).trans rfl
      have hy2 : w1.cell? ⟨wr.heap.size, 2, none⟩ = some (.slice A2 e.f1.f1.length c2) := (blk_cell BK.out 2).trans rfl
      have hlook := HI1.out.mm.run_ok (t := 60) Tryd.underlying60 (z := zero31v) (zero31 w1) (k := e.f0) W0.out
      obtain ⟨any9, A9, c9, hv9, _⟩ := HI1.out.val e.f0
      rw [hv9, HI1.out.has e.f0] at hlook
      replace hlook : (Instr.lookup 60 (.map (some w.heap.size)) (.int .i64 e.f0) true).run Tryd.prog w1 = .ok (.tuple #[.agg #[.bool any9, .slice A9 (dsE At.cv ks e.f0).length c9], .bool (decide (e.f0 ∈ ks.map (·.f0)))]) w1 := hlook
      clear hv9
      by_cases hin : e.f0 ∈ ks.map (·.f0)
      · rw [decide_eq_true hin] at hlook
        go_wp2_with fail
        go_roundw
        case rel => exact ⟨i + 1, ks, F, by go_num, by omega, ⟨(HI1.out.alloc _).mono (Nat.le_succ _)⟩⟩
        case measure => simp [intOf]; omega
      · rw [decide_eq_false hin] at hlook
        have HIN := Aside0.mk hin
        clear hin
        go_wp2_with fail
        have HI2 := Aside0.mk ((HI1.out.alloc (.cells #[.bool any9, .slice A9 (dsE At.cv ks e.f0).length c9] 31)).below (below_drew (Below.refl _ _)))
        have BK2 := Aside0.mk (blk_drew (blk_alloc BK.out (.cells #[.bool any9, .slice A9 (dsE At.cv ks e.f0).length c9] 31)))
        clear hlook hy0 hy1 hy2
        refine start_ (n := 7) (S := (fun w' => w'.cell? ⟨wr.heap.size, 0, none⟩ = some (.int .i64 e.f0) ∧ w'.cell? ⟨wr.heap.size, 1, none⟩ = some (.bool e.f1.f0) ∧ w'.cell? ⟨wr.heap.size, 2, none⟩ = some (.slice A2 e.f1.f1.length c2))) (ds := [6]) #[false, false, false, false, false, false, false] (by kernel_rfl) rfl rfl ⟨(blk_cell BK2.out 0).trans rfl, (blk_cell BK2.out 1).trans rfl, (blk_cell BK2.out 2).trans rfl⟩ (fun hHeld => ?_)
        generalize (w1.alloc (.cells #[.bool any9, .slice A9 (dsE At.cv ks e.f0).length c9] 31)).drew = wd at HI2 BK2 hHeld ⊢
        refine pure_ (i := 0) (N := some 35) (v := ?_) (a' := ?_) #[true, false, false, false, false, false, false] rfl rfl (by kernel_rfl) (fun _ _ _ h => h) (Or.inl ⟨by rfl, ?_⟩) ?_ ?_
        rotate_left
        · intro w'
          go_simp
          with_reducible rfl
        rotate_left
        · simp only [Act.put, List.setIfInBounds_toArray, List.set_cons_zero, List.set_cons_succ, i64_w, i32_w]
          rfl
        refine pure_ (i := 1) (N := some 36) (v := ?_) (a' := ?_) #[true, true, false, false, false, false, false] rfl rfl (by kernel_rfl) (fun _ _ _ h => h) (Or.inl ⟨by rfl, ?_⟩) ?_ ?_
        rotate_left
        · intro w'
          go_simp
          with_reducible rfl
        rotate_left
        · simp only [Act.put, List.setIfInBounds_toArray, List.set_cons_zero, List.set_cons_succ, i64_w, i32_w]
          rfl
        refine pure_ (i := 3) (N := some 38) (v := ?_) (a' := ?_) #[true, true, false, true, false, false, false] rfl rfl (by kernel_rfl) (fun _ _ _ h => h) (Or.inl ⟨by rfl, ?_⟩) ?_ ?_
        rotate_left
        · intro w'
          go_simp
          with_reducible rfl
        rotate_left
        · simp only [Act.put, List.setIfInBounds_toArray, List.set_cons_zero, List.set_cons_succ, i64_w, i32_w]
          rfl
        refine take_ (i := 2) (N := some 37) (v := ?_) (a' := ?_) #[true, true, true, true, false, false, false] rfl rfl (by kernel_rfl) (fun _ _ _ h => h) (Or.inl ⟨by rfl, ?_⟩) hHeld ?_ ?_
        rotate_left
        · rintro w' ⟨hs0, hs1, hs2⟩
          go_simp
          with_reducible rfl
        rotate_left
        · simp only [Act.put, List.setIfInBounds_toArray, List.set_cons_zero, List.set_cons_succ, i64_w, i32_w]
          rfl
        refine take_ (i := 4) (N := some 39) (v := ?_) (a' := ?_) #[true, true, true, true, true, false, false] rfl rfl (by kernel_rfl) (fun _ _ _ h => h) (Or.inl ⟨by rfl, ?_⟩) hHeld ?_ ?_
        rotate_left
        · rintro w' ⟨hs0, hs1, hs2⟩
          go_simp
          with_reducible rfl
        rotate_left
        · simp only [Act.put, List.setIfInBounds_toArray, List.set_cons_zero, List.set_cons_succ, i64_w, i32_w]
          rfl
        refine one_ (i := 5) (N := some 40) #[true, true, true, true, true, true, false] rfl rfl (by kernel_rfl) (by decide) (fun K hK => ?_)
        refine goes_ Tryd.func13 (by kernel_rfl) rfl #[.agg #[.bool e.f1.f0, .slice A2 e.f1.f1.length c2]] (by rfl) rfl rfl (by (try simp only [List.map_toArray, List.map_cons, List.map_nil]); first | done | rfl) ?_
        refine (marlinspikelaw07_theirs.calls 61 e.f1.f0 (fun k => k < w.heap.size) A2 c2 e.f1.f1 e.f1.f0 (e.f1.f1.map At.cv) _ (V46b HK2.out HC2.out HI2.out.bel) (theirs_f e.f1.f0 e.f1.f1 (by have := HFEW.out.1; omega) 61 (by have := HFEW.out.1; omega))).mono ?_
        rintro e4 w3 ⟨v1, rfl, hN, hb⟩
        obtain ⟨A3, c3, rfl⟩ := Kd.N_slice hN
        have HV3 := Aside0.mk (HI2.out.fresh hN)
        have HI3 := Aside0.mk (HI2.out.below hb)
        have BK3 := Aside0.mk (blk_below BK2.out hb)
        clear hN hb
        refine ⟨_, rfl, ?_⟩
        refine hK.out _ _ ⟨(blk_cell BK3.out 0).trans rfl, (blk_cell BK3.out 1).trans rfl, (blk_cell BK3.out 2).trans rfl⟩ (fun hHeld => ?_)
        clear hK K
        refine norm_ (a' := ?_) ?_ ?_
        rotate_left
        · show Act.put _ (some 40) _ = _
          simp only [Act.put, List.setIfInBounds_toArray, List.set_cons_zero, List.set_cons_succ, i64_w, i32_w]
          rfl
        obtain ⟨w4, hrun, hg4, hB4, hN4, hfin⟩ := HI3.out.put (by omega) e W0.out HIN.out HE.out HFEW.out e.f1.f0 A3 c3 HV3.out
        refine last_ (i := 6) (N := none) #[true, true, true, true, true, true, true] rfl rfl (by kernel_rfl) (by decide) (fun K hK => ?_)
        refine upd_ rfl rfl (t := 60) rfl rfl rfl rfl hrun ?_
        refine hK.out _ _ ?_
        clear hK K hrun
        have BK4 := Aside0.mk (blk_grown BK3.out hg4 (fun h => by have := LT.out; have := Option.some.inj h; omega))
        have HB4 := Aside0.mk hB4
        have HN4 := Aside0.mk hN4
        have HFN := Aside0.mk hfin
        have LT4 : Aside0 (w.heap.size < w4.heap.size) := ⟨Nat.lt_of_lt_of_le LT.out (Nat.le_of_lt (blk_lt BK4.out))⟩
        have CNT := Aside0.mk HI3.out.cnt
        clear hg4 hB4 hN4 hfin
        refine done_ (by kernel_rfl) ?_
        have hz0 : w4.cell? ⟨wr.heap.size, 0, none⟩ = some (.int .i64 e.f0) := (blk_cell BK4.out 0).trans rfl
        have hz1 : w4.cell? ⟨wr.heap.size, 1, none⟩ = some (.bool e.f1.f0) := (blk_cell BK4.out 1).trans rfl
        have hz2 : w4.cell? ⟨wr.heap.size, 2, none⟩ = some (.slice A2 e.f1.f1.length c2) := (blk_cell BK4.out 2).trans rfl
        go_wp2_with (first | ((with_reducible refine gate_builtin (b := .append) (xs := #[.tmp 41, .tmp 43]) rfl ?_); at_builtin; refine Kd.N_append PL.k62 (w0 := w) w.heap.size rfl (.tmp 41) (.tmp 43) 59 62 (.agg #[(.int .i64 0), (.bool false), (.slice none 0 0)]) 40 rfl Tryd.underlying59 info62 rfl (by decide) (by omega) u6 ks e [.int .i64 e.f0, .bool e.f1.f0, .slice A2 e.f1.f1.length c2] (fun k => k ≠ w.heap.size) (fun k => k < w.heap.size) rfl rfl ?aP ?aK ?aF HN4.out HB4.out HB4.out.size ?aL ?_; (case aP => exact fun W' hW => PL.k62_mk W' e HC2.out (heap46.C (fun k hlt => (hW k hlt (Nat.lt_of_lt_of_le hlt HB4.out.size)).trans (HB4.out.block k hlt)) HK2.out)); (case aK => exact fun k hk => ⟨Nat.ne_of_lt hk, fun he => Nat.lt_irrefl _ (Nat.lt_of_lt_of_le hk (Kd.N_base HN4.out k he.symm))⟩); (case aF => exact fun k hk => Nat.ne_of_gt (Nat.lt_of_lt_of_le LT4.out hk)); (case aL => have := CNT.out; have := M60; omega); intro v7 w5 hN5 hB5 hg5 hat; have HI5 := Aside0.mk (HFN.out v7 w5 hN5 hB5 hg5 hat); clear hN5 hB5 hg5 hat) | fail)
        go_roundw
        case rel => exact ⟨i + 1, ks ++ [e], _, by go_num, by omega, HI5⟩
        case measure => simp [intOf]; omega
    · obtain rfl : i = m := by omega
      obtain ⟨A6, c6, rfl⟩ := Kd.N_slice HI.out.row
      obtain ⟨_, hc6, hk6⟩ := Kd.N_reads' HI.out.row
      obtain ⟨f, r, M', hd, K, hK⟩ := loops_same At.cv (fun _ => rfl) ks ⟨Nat.le_trans HI.out.cnt M60, HI.out.few⟩ HI.out.nd src
      have HC6 := Aside0.mk hc6
      have HK6 := Aside0.mk hk6
      have HD := Aside0.mk hd
      have HKK := Aside0.mk (hK K (Nat.le_refl _))
      clear hc6 hk6 hd hK
      go_wp2_with fail
      refine (loop_calls wr (HI.out.deps M60 HF.out) src HS.out f r M' HD.out).mono ?_
      rintro e2 w2 ⟨rfl, hb⟩
      have HB2 := Aside0.mk (below_then HI.out.bel HI.out.bel.size hb)
      replace HK6 := Aside0.mk (Kd.C_below HK6.out hb)
      clear hb
      go_wp2_with fail
      refine (PL.marlinspikeref07_Loop.calls K A6 c6 ks src r _ HK6.out HC6.out HKK.out).mono ?_
      rintro e3 w3 ⟨rfl, hb⟩
      have HB3 := Aside0.mk (below_then HB2.out HB2.out.size hb)
      clear hb
      have hrr : (r == r) = true := beq_self_eq_true r
      go_wp2_with fail
      refine (alive_calls _ (HG.out.below HB3.out)).mono ?_
      rintro e5 w5 ⟨rfl, hb⟩
      have HB5 := Aside0.mk (below_then HB3.out HB3.out.size hb)
      clear hb
      go_wp2
      go_ret
      exact ⟨rfl, HB5.out⟩
end Go.Proofs.YtknbnnpggdegmaaDoor.Lp
end
section
namespace Go.Proofs.YtknbnnpggdegmaaDoor.At
open Go.RowKit Go.Proofs.YtknbnnpggdegmaaDoorW.PrintWords Go.Proofs.YtknbnnpggdegmaaDoor.PD Go.Proofs.YtknbnnpggdegmaaDoor.Op
abbrev wfI (y : Int) : Prop := (Lit.int .i64 y).wf = true
theorem ints_opens : Opens Tryd.prog 44 (Kd.slice 3 (Kd.int .i64)).K (fun l => l.length ≤ maxLen ∧ ∀ y ∈ l, wfI y) := opens_slice 3 Tryd.underlying44 (by kernel_rfl) (opens_int Tryd.underlying3)
theorem item_opens : Opens Tryd.prog 46 k46.K (fun x => wfI x.f0 ∧ x.f1.length ≤ maxLen ∧ ∀ y ∈ x.f1, wfI y) :=
  opens_iso (fun x : S46 => (x.f0, x.f1)) (fun p => ⟨p.1, p.2⟩) (fun _ => rfl) (opens_struct Tryd.underlying46 (by kernel_rfl) (opensF_cons 3 rfl rfl (by kernel_rfl) (opens_int Tryd.underlying3) (opensF_one 44 rfl rfl (by kernel_rfl) ints_opens)))
theorem items_opens : Opens Tryd.prog 22 (Kd.slice 46 k46).K (fun l => l.length ≤ maxLen ∧ ∀ x ∈ l, wfI x.f0 ∧ x.f1.length ≤ maxLen ∧ ∀ y ∈ x.f1, wfI y) := opens_slice 46 Tryd.underlying22 (by kernel_rfl) item_opens
theorem dep_opens : Opens Tryd.prog 24 (Kd.pair Kd.bool (Kd.slice 46 k46)).K (fun p => True ∧ p.2.length ≤ maxLen ∧ ∀ x ∈ p.2, wfI x.f0 ∧ x.f1.length ≤ maxLen ∧ ∀ y ∈ x.f1, wfI y) :=
  opens_struct (sz := 2) Tryd.underlying24 (by kernel_rfl) (opensF_cons (off := 0) (a := Kd.bool) (b := Kd.slice 46 k46) (Ga := fun _ => True) 4 rfl rfl (by kernel_rfl) (opens_bool Tryd.underlying4) (opensF_one 22 rfl rfl (by kernel_rfl) items_opens))
end Go.Proofs.YtknbnnpggdegmaaDoor.At
end
section
namespace Go.Proofs.YtknbnnpggdegmaaDoor.At
open Go.RowKit Go.Proofs.YtknbnnpggdegmaaDoorW.PrintWords Go.Proofs.YtknbnnpggdegmaaDoor.PD Go.Proofs.YtknbnnpggdegmaaDoor.Op
theorem dep2_opens : Opens Tryd.prog 24 PL.k24.K (fun x => True ∧ x.f1.length ≤ maxLen ∧ ∀ y ∈ x.f1, wfI y.f0 ∧ y.f1.length ≤ maxLen ∧ ∀ z ∈ y.f1, wfI z) :=
  opens_iso (fun x : PL.S24 => (x.f0, x.f1)) (fun p => ⟨p.1, p.2⟩) (fun _ => rfl) dep_opens
theorem edge_opens : Opens Tryd.prog 62 PL.k62.K (fun x => wfI x.f0 ∧ True ∧ x.f1.f1.length ≤ maxLen ∧ ∀ y ∈ x.f1.f1, wfI y.f0 ∧ y.f1.length ≤ maxLen ∧ ∀ z ∈ y.f1, wfI z) :=
  opens_iso (fun x : PL.S62 => (x.f0, x.f1)) (fun p => ⟨p.1, p.2⟩) (fun _ => rfl) (opens_struct Tryd.underlying62 (by kernel_rfl) (opensF_cons 3 rfl rfl (by kernel_rfl) (opens_int Tryd.underlying3) (opensF_one 24 rfl rfl (by kernel_rfl) dep2_opens)))
theorem edges_opens : Opens Tryd.prog 59 (Kd.slice 62 PL.k62).K (fun l => l.length ≤ maxLen ∧ ∀ x ∈ l, wfI x.f0 ∧ True ∧ x.f1.f1.length ≤ maxLen ∧ ∀ y ∈ x.f1.f1, wfI y.f0 ∧ y.f1.length ≤ maxLen ∧ ∀ z ∈ y.f1, wfI z) := opens_slice 62 Tryd.underlying59 (by kernel_rfl) edge_opens
end Go.Proofs.YtknbnnpggdegmaaDoor.At
end
section
namespace Go.Proofs.YtknbnnpggdegmaaDoor.depLoops
open Go.ChangeShapes Go.WideShapes Go.ChangeAt Go.RowKit
open Go.ChangeMaps (open_string shut_string)
open Go.Proofs.YtknbnnpggdegmaaDoorW.PrintWords 
set_option linter.unusedVariables false
set_option maxRecDepth 100000
theorem own : ownKnob Tryd.prog.godebug = none := by kernel_rfl
theorem laidOut : laidOutB Tryd.prog = true := by kernel_rfl
theorem laid_met (os : Os) : laidMet Tryd.prog Rows.depLoopsRow.laid ((World.doorLaid Tryd.prog 62 os).forCall (fun _ _ => 0) ⟨#[], #[.slice none 0 0, .int .i64 0], []⟩).memory :=
  laidMet_of_run' 8 (by kernel_rfl) (by kernel_rfl)
theorem witness_row (os : Os) {H : Type} (enc : TypeId × Value → H) :
    (OpenSpec.ofChange Rows.depLoopsSpec).preRow enc Tryd.prog Tryd.f9 Rows.depLoopsRow.domain false Rows.depLoopsRow.laid ((World.doorLaid Tryd.prog 62 os).forCall (fun _ _ => 0) ⟨#[], #[.slice none 0 0, .int .i64 0], []⟩).memory #[.slice none 0 0, .int .i64 0] := by
  have hw : (DataW.whole enc Tryd.prog ((World.doorLaid Tryd.prog 62 os).forCall (fun _ _ => 0) ⟨#[], #[.slice none 0 0, .int .i64 0], []⟩).memory Tryd.f9.params.toList (OpenSpec.ofChange Rows.depLoopsSpec).vars false #[.slice none 0 0, .int .i64 0].toList 8).map (fun x => (x.1, x.2.1)) =
      some ([.nil, .lit (.int .i64 0)], []) := by kernel_rfl
  obtain ⟨⟨x1, x2, x3⟩, hx, hx1⟩ := Option.map_eq_some_iff.1 hw
  simp only [Prod.mk.injEq] at hx1
  obtain ⟨rfl, rfl⟩ := hx1
  exact OpenSpec.preRow_of_cond 8 hx (by kernel_rfl) (fun k hk => by cases hk) (by kernel_rfl) (laid_met os)
theorem star : "*" ++ "errors.errorString" = "*errors.errorString" := by decide
theorem row_err (u : TypeId) (h : Tryd.prog.typeName? 3 u = some "*errors.errorString") : u = 146 :=
  typeName_ptr_named (nm := "errors.errorString") (by rw [star]; kernel_rfl) (by kernel_rfl) (by decide) u (by rw [star]; exact h)
theorem glob {W : World} (h : laidMetH Tryd.prog Rows.depLoopsRow.laid W) : Lib.Glob W := by
  rw [MakeChecks.laidMetH_plain _ _ _ (by kernel_rfl)] at h
  have h0 : laidMet Tryd.prog Rows.depLoopsRow.laid W := h
  have h1 : laidMet Tryd.prog [("math/bits.deBruijn64tab", Rows.laid_math_bits_deBruijn64tab), ("internal/strconv.uint64pow10", Rows.laid_internal_strconv_uint64pow10), ("strconv.ErrRange", Rows.laid_strconv_ErrRange), ("strconv.ErrSyntax", Rows.laid_strconv_ErrSyntax)] W := laidMet.tail h0
  have h2 : laidMet Tryd.prog [("internal/strconv.uint64pow10", Rows.laid_internal_strconv_uint64pow10), ("strconv.ErrRange", Rows.laid_strconv_ErrRange), ("strconv.ErrSyntax", Rows.laid_strconv_ErrSyntax)] W := laidMet.tail h1
  have h3 : laidMet Tryd.prog [("strconv.ErrRange", Rows.laid_strconv_ErrRange), ("strconv.ErrSyntax", Rows.laid_strconv_ErrSyntax)] W := laidMet.tail h2
  have h4 : laidMet Tryd.prog [("strconv.ErrSyntax", Rows.laid_strconv_ErrSyntax)] W := laidMet.tail h3
  have h5 : laidMet Tryd.prog [] W := laidMet.tail h4
  obtain ⟨a1, s1, v1, _⟩ := laid_sentinel (g := 2) h4 (by kernel_rfl) (by kernel_rfl) Tryd.underlying91 row_err Tryd.underlying146 Tryd.underlying148 rfl rfl Tryd.underlying9 (by kernel_rfl) (by kernel_rfl)
  obtain ⟨a2, s2, v2, _⟩ := laid_sentinel (g := 3) h3 (by kernel_rfl) (by kernel_rfl) Tryd.underlying91 row_err Tryd.underlying146 Tryd.underlying148 rfl rfl Tryd.underlying9 (by kernel_rfl) (by kernel_rfl)
  refine ⟨Go.Lib.tabIs_of_head Lib.g_tab (by kernel_rfl) Tryd.underlying134 Tryd.underlying111 (by kernel_rfl) (by kernel_rfl) h2, ⟨_, _, v1⟩, ⟨_, _, v2⟩⟩
set_option maxHeartbeats 4000000 in
theorem lifted (os : Os) (started : os.Started) (H : Type) (enc : TypeId × Value → H) (F : Stop.Interp) :
    ReturnsInHanded {} Tryd.checked os 9 .any ((OpenSpec.ofChange Rows.depLoopsSpec).preRow enc Tryd.prog Tryd.f9 Rows.depLoopsRow.domain false Rows.depLoopsRow.laid) (((OpenSpec.ofChange Rows.depLoopsSpec).at F).post enc Tryd.prog Tryd.f9 false true false false) := by
  refine returnsInHanded_of_row (C := Tryd.checked) (s := (OpenSpec.ofChange Rows.depLoopsSpec)) own started (by kernel_rfl) Tryd.func9
    (witness_row_atRef (enc := enc) (C := Tryd.checked) false (World.doorLaid Tryd.prog 62 os) #[.slice none 0 0, .int .i64 0] rfl (by kernel_rfl) (by kernel_rfl) (by kernel_rfl) (witness_row os enc)) ?_
  intro W base args ds gs before hval0 hW _ _ hsz0 hL _ _
  have hsz : (DataW.weightsEach Tryd.prog (Tryd.f9.params.toList ++ (OpenSpec.ofChange Rows.depLoopsSpec).bare.plain.varTypes Tryd.prog) (ds ++ gs)).all (· ≤ reachBytes) = true := hsz0
  have hval : ∀ (j : Nat) t v, Tryd.f9.params[j]? = some t → args[j]? = some v → Value.okWide Tryd.prog W .any base t v := hval0
  have hG := glob hL
  have hW' := hW
  obtain ⟨p, q, hA0, hV, rfl, hfz, hnd⟩ := hW
  have hA : DataW.TrodAll enc Tryd.prog W 0 (fun _ => true) true Tryd.f9.params.toList args.toList ds p := hA0
  rw [Tryd.params9] at hA hval hsz
  obtain ⟨v0, vs0, d0, ds0, p0, q0, hargs, rfl, rfl, t0, r0⟩ := trodAll_cons hA
  obtain ⟨v1, vs1, d1, ds1, p1, q1, rfl, rfl, rfl, t1, r1⟩ := trodAll_cons r0
  obtain ⟨rfl, rfl, rfl⟩ := trodAll_nil r1
  obtain rfl : args = #[v0, v1] := by cases args; simp_all
  obtain ⟨rfl, rfl⟩ := trodVars_none hV
  have k0 := t0
  have y0 := hval 0 59 v0 rfl rfl
  obtain ⟨x0, kx0, gx0⟩ := Op.opens_arg At.edges_opens t0
  obtain ⟨A0, c0, e0, hc0, hr0⟩ := kx0
  obtain ⟨a0, l0, b0, rfl⟩ := okWide_slice Tryd.underlying59 y0
  have e0 : Value.slice a0 l0 b0 = .slice A0 x0.length c0 := by simpa [Value.cells] using e0
  injection e0 with ea eb ec
  subst ea; subst eb; subst ec
  have k1 := t1
  have y1 := hval 1 3 v1 rfl rfl
  obtain ⟨z1, rfl, rfl, rfl, wz1⟩ := open_int Tryd.underlying3 y1 t1
  clear hA0 hval0 hsz0 hsz
  refine (Lp.loops_calls a0 b0 x0 z1 W hr0 hc0 ⟨fun e he => ⟨(gx0.2 e he).1, fun x hx => ((gx0.2 e he).2.2.2 x hx).2.2⟩⟩ wz1 hG).mono fun e W' ⟨he, bel⟩ => ?_
  subst he
  exact ⟨_, rfl, _, _, _, [], _, [], hW', trodAll_mk1 (shut_bool Tryd.underlying4 _), (trodAll_cons_mk (Below.trod laidOut (by kernel_rfl) (of_decide_eq_true (by kernel_rfl)) k0 bel (Op.trod_lt k0)) (trodAll_cons_mk (Below.trod laidOut (by kernel_rfl) (of_decide_eq_true (by kernel_rfl)) k1 bel (Op.trod_lt k1)) trodAll_mk0)), rfl, bel.frame _, fun h => by cases h⟩
theorem said : Rows.DepLoopsSaid :=
  OpenClaim.holds_of_cond 9 Tryd.f9 rfl rfl rfl rfl rfl rfl rfl ⟨rfl, rfl, rfl, rfl, rfl⟩ rfl rfl rfl rfl rfl (by kernel_rfl) Tryd.func9 (by kernel_rfl)
    (of_decide_eq_true (by kernel_rfl)) (by unfold Func.isWrapper; first | (rw [if_pos (by decide +kernel)]; kernel_rfl) | (rw [if_neg (by decide +kernel)]; exact ⟨rfl, rfl⟩))
    (fun os started H enc _ F => by rw [OpenClaim.pre_eq_preRow]; exact lifted os started H enc F)
theorem plain (f : FuncId) (fn : Func) (hf : Tryd.pinned.checked.prog.funcNamed "marlinspike/marlinspikelaw07.DepLoops" = some f) (hfn : Tryd.pinned.checked.prog.funcs[f]? = some fn) :
    true = Tryd.pinned.checked.prog.looks [] ∧ ∀ (j : Nat) t, fn.params[j]? = some t → Tryd.pinned.checked.prog.wantsStandIn t = false := by
  obtain rfl : f = 9 := Option.some.inj ((show Tryd.prog.funcNamed "marlinspike/marlinspikelaw07.DepLoops" = some 9 by kernel_rfl).symm.trans hf) |>.symm
  obtain rfl : fn = Tryd.f9 := (Option.some.inj (Tryd.func9.symm.trans hfn)).symm
  refine ⟨by kernel_rfl, fun j t ht => ?_⟩
  rw [Tryd.params9] at ht
  have := Array.mem_of_getElem? ht
  have all : (#[59, 3] : Array TypeId).all (fun t => Tryd.prog.wantsStandIn t = false) = true := by kernel_rfl
  exact of_decide_eq_true (Array.all_eq_true_iff_forall_mem.1 all t this)
theorem card : Rows.DepLoopsCardSaid :=
  Claim7.holds_tied_plain_at .later [] _ _ _ _ said (fun _ h => by cases h) (by kernel_rfl) (fun _ h => by cases h) depLoops_row_tie rfl ⟨rfl, rfl⟩ (by kernel_rfl) rfl plain (by kernel_rfl)
#print axioms card
end Go.Proofs.YtknbnnpggdegmaaDoor.depLoops
namespace Go.Proofs.YtknbnnpggdegmaaDoor
theorem depLoops_card : Rows.DepLoopsCardSaid := depLoops.card
end Go.Proofs.YtknbnnpggdegmaaDoor
end
