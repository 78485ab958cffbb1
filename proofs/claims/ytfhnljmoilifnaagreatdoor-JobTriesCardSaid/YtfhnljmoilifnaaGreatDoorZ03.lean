/- Part 3 of the proof. -/
import Derived.Test.YtfhnljmoilifnaaGreatDoorProg
import Derived.Test.YtfhnljmoilifnaaGreatDoorZ02
import Derived.Test.YtfhnljmoilifnaaGreatDoorZ01
import Derived.WalkSmall
import Derived.Lib.LaidTab
import Derived.Lib.ItoaNum
import Derived.Lib.AtoiAll
import Derived.Lib.Join
import Derived.DataReads
import Derived.DataElems
import Derived.ChangeOld
import Derived.Orders
import Derived.Below
import Derived.Deep.MidRow
import Derived.Deep.AppendSrc
import Derived.Laws.CopyRow
import Derived.Laws.BytesString
import Derived.Laws.MakeOwn
import Derived.Deep.Upon
section
namespace Go.Proofs.YtfhnljmoilifnaaGreatDoor.Lib
open Go.RowKit Go.Proofs.YtfhnljmoilifnaaGreatDoorW.PrintWords
set_option linter.unusedVariables false
set_option linter.unusedSimpArgs false
structure Glob (w : World) : Prop where mk ::
  tab : Go.Lib.TabIs Tryz.prog w "internal/strconv.uint64pow10" .u64 Go.Lib.pow10Tab
  syn : ∃ tp p, w.var? Tryz.prog "strconv.ErrSyntax" = some #[.iface tp p]
  ran : ∃ tp p, w.var? Tryz.prog "strconv.ErrRange" = some #[.iface tp p]
theorem g_tab : Tryz.prog.globalNamed "internal/strconv.uint64pow10" = some 3 := by kernel_rfl
theorem g_syn : Tryz.prog.globalNamed "strconv.ErrSyntax" = some 1 := by kernel_rfl
theorem g_ran : Tryz.prog.globalNamed "strconv.ErrRange" = some 2 := by kernel_rfl
theorem var_lt {w : World} {n : String} {g : Nat} {cs : Array Value} (hg : Tryz.prog.globalNamed n = some g) (hv : w.var? Tryz.prog n = some cs) : g < w.heap.size := by
  unfold World.var? at hv
  simp only [hg, Option.bind_some] at hv
  cases h : w.heap[g]? with
  | none => rw [h] at hv; cases hv
  | some o => exact (Array.getElem?_eq_some_iff.1 h).1
theorem Glob.below {w w' : World} (h : Glob w) (hb : Below w.heap.size w w') : Glob w' := by
  obtain ⟨h1, ⟨t2, p2, h2⟩, ⟨t3, p3, h3⟩⟩ := h
  exact ⟨var?_below hb g_tab (var_lt g_tab h1) h1, ⟨t2, p2, var?_below hb g_syn (var_lt g_syn h2) h2⟩, ⟨t3, p3, var?_below hb g_ran (var_lt g_ran h3) h3⟩⟩
def strings_Join.f (l : List ByteArray) (s : ByteArray) : Option ByteArray :=
  if l.length ≤ 140737488355328 ∧ (Go.Lib.join (l.map (·.data.toList)) s.data.toList).length ≤ 140737488355328 then some ⟨(Go.Lib.join (l.map (·.data.toList)) s.data.toList).toArray⟩ else none
end Go.Proofs.YtfhnljmoilifnaaGreatDoor.Lib
end
section
namespace Go.Proofs.YtfhnljmoilifnaaGreatDoor.Op
open Go.RowKit Go.Proofs.YtfhnljmoilifnaaGreatDoorW.PrintWords Go.Proofs.YtfhnljmoilifnaaGreatDoorW.PrintLast Go.Proofs.YtfhnljmoilifnaaGreatDoorW.PrintMore
set_option linter.unusedVariables false
set_option linter.unusedSimpArgs false
theorem trod_lt {H : Type} {enc : TypeId × Value → H} {P : Program} {w : World} {t : TypeId} {v : Value} {d : DataW H} {ps : List MemPlace} (ht : DataW.Trod enc P w 0 (fun _ => true) true t v d ps) : ∀ x ∈ ps, x.block < w.heap.size := by
  obtain ⟨m, hm⟩ := ht
  exact DataW.trod_lt m _ _ _ hm
end Go.Proofs.YtfhnljmoilifnaaGreatDoor.Op
end
section
namespace Go.Proofs.YtfhnljmoilifnaaGreatDoor.Ae
open Go
set_option linter.unusedVariables false
noncomputable section
inductive Tr (α : Type) where
  | nil
  | node (l : Tr α) (v : Option α) (r : Tr α)
noncomputable def Tr.geti {α : Type} (t : Tr α) : Nat → Option α :=
  Tr.rec (motive := fun _ => Nat → Option α) (fun _ => none) (fun _ v _ ihl ihr i => @Bool.rec (fun _ => Option α) (@Bool.rec (fun _ => Option α) (ihr (Nat.sub (Nat.div i 2) 1)) (ihl (Nat.div i 2)) (Nat.beq (Nat.mod i 2) 1)) v (Nat.beq i 0)) t
noncomputable def Tr.get {α : Type} (_ : Nat) (t : Tr α) (i : Nat) : Option α := Tr.geti t i
noncomputable def Tr.path {α : Type} (x : α) (d : Nat) : Nat → Tr α :=
  Nat.rec (motive := fun _ => Nat → Tr α) (fun _ => .nil) (fun _ ih i => @Bool.rec (fun _ => Tr α) (@Bool.rec (fun _ => Tr α) (.node .nil none (ih (Nat.sub (Nat.div i 2) 1))) (.node (ih (Nat.div i 2)) none .nil) (Nat.beq (Nat.mod i 2) 1)) (.node .nil (some x) .nil) (Nat.beq i 0)) d
noncomputable def Tr.seti {α : Type} (x : α) (t : Tr α) : Nat → Nat → Tr α :=
  Tr.rec (motive := fun _ => Nat → Nat → Tr α) (fun d i => Tr.path x d i) (fun l v r ihl ihr d i => @Bool.rec (fun _ => Tr α) (@Bool.rec (fun _ => Tr α) (.node l v (ihr (Nat.sub d 1) (Nat.sub (Nat.div i 2) 1))) (.node (ihl (Nat.sub d 1) (Nat.div i 2)) v r) (Nat.beq (Nat.mod i 2) 1)) (.node l (some x) r) (Nat.beq i 0)) t
noncomputable def Tr.set {α : Type} (d : Nat) (t : Tr α) (i : Nat) (x : α) : Tr α := Tr.seti x t d i
inductive AObj where
  | cells (c : List Value) (elem : TypeId)
  | row (c : List Value) (elem : TypeId)
  | map (es : List MapEntry) (clock : Nat)
  | sit (s : ByteArray) (pos : Nat)
  | dead
structure Hp where mk ::
  h : Tr AObj
  n : Nat
abbrev Tm := Tr Value
def DT : Nat := 10
def DH : Nat := 20
def Hp.get (hp : Hp) (b : Nat) : AObj := (hp.h.get DH b).getD .dead
def Hp.put (hp : Hp) (b : Nat) (o : AObj) : Hp := ⟨hp.h.set DH b o, hp.n⟩
def Hp.new (hp : Hp) (o : AObj) : Option (Nat × Hp) := bif Nat.blt hp.n 1000000 then some (hp.n, ⟨hp.h.set DH hp.n o, hp.n + 1⟩) else none
mutual
def flat : Value → Bool
  | .bool _ | .int _ _ | .float _ _ | .complex _ _ _ | .string _ | .nilFunc | .nilIface => true
  | .pointer a => a.isNone
  | .slice a n c => a.isNone && Nat.beq n 0 && Nat.beq c 0
  | .map r => r.isNone
  | .chan r => r.isNone
  | .func (.func _) a b => flats a.toList && flats b.toList
  | .func _ _ _ => false
  | .iface _ v => flat v
  | .agg cs => flats cs.toList
  | .tuple cs => flats cs.toList
def flats : List Value → Bool
  | [] => true
  | v :: vs => flat v && flats vs
end
def ev (t : Tm) : Operand → Value
  | .tmp i => (t.get DT i).getD undef
  | .const v => v
  | .global g => .pointer (some ⟨g, 0, none⟩)
  | .func f => .func (.func f) #[] #[]
def opd (G : Nat) (t : Tm) : Operand → Option Value
  | .tmp i => some ((t.get DT i).getD undef)
  | .const v => bif flat v then some v else none
  | .global g => bif Nat.blt g G then some (.pointer (some ⟨g, 0, none⟩)) else none
  | .func f => some (.func (.func f) #[] #[])
def opds (G : Nat) (t : Tm) : List Operand → Option (List Value)
  | [] => some []
  | x :: xs => match opd G t x with
    | none => none
    | some v => match opds G t xs with
      | none => none
      | some vs => some (v :: vs)
def pureRun {α : Type} (P : Program) : Sem α → Option α
  | .pure a => some a
  | .program k => pureRun P (k P)
  | .mark _ k => pureRun P k
  | _ => none
def isAggT (P : Program) (t : TypeId) : Option Bool := match P.underlying t with
  | some (.struct _) | some (.array _ _) => some true
  | some _ => some false
  | none => none
def sizeT (P : Program) (t : TypeId) : Option Nat := (P.info? t).map (·.size)
def zeroT (P : Program) (t : TypeId) : Option Value := match P.info? t with
  | some i => i.zero
  | none => none
def partA (P : Program) (t : TypeId) (cs : List Value) (off : Nat) : Option Value :=
  match isAggT P t, sizeT P t with
  | some true, some n => bif Nat.ble (off + n) cs.length then some (.agg ((cs.drop off).take n).toArray) else none
  | some false, _ => cs[off]?
  | _, _ => none
def cellsOf (o : AObj) : Option (List Value × TypeId) := match o with
  | .cells c e => some (c, e)
  | .row c e => some (c, e)
  | _ => none
def withCells (o : AObj) (c : List Value) : AObj := match o with
  | .cells _ e => .cells c e
  | .row _ e => .row c e
  | o => o
def addrOf : Value → Option (Nat × Nat)
  | .pointer (some ⟨b, o, none⟩) => some (b, o)
  | _ => none
def loadA (P : Program) (hp : Hp) (t : TypeId) (v : Value) : Option Value :=
  match addrOf v with
  | none => none
  | some (b, o) => match cellsOf (hp.get b) with
    | none => none
    | some (c, _) => partA P t c o
def scal : Value → Bool
  | .agg _ | .tuple _ => false
  | _ => true
def splice (c : List Value) (o : Nat) (vs : List Value) : List Value := c.take o ++ vs ++ c.drop (o + vs.length)
def storeCellsA (hp : Hp) (G b o : Nat) (vs : List Value) : Option Hp :=
  bif Nat.blt b G then none else
  match cellsOf (hp.get b) with
  | none => none
  | some (c, _) => bif Nat.ble (o + vs.length) c.length && vs.all scal then some (hp.put b (withCells (hp.get b) (splice c o vs))) else none
def storeA (P : Program) (G : Nat) (hp : Hp) (t : TypeId) (a x : Value) : Option Hp :=
  match addrOf a, sizeT P t with
  | some (b, o), some n => bif Nat.beq x.cells.size n then storeCellsA hp G b o x.cells.toList else none
  | _, _ => none
def fillA (place : Nat → Option (Nat × Nat)) (c : List Value) : List (Nat × Value) → Option (List Value)
  | [] => some c
  | (i, v) :: rest => match place i with
    | none => none
    | some (off, size) => bif Nat.beq v.cells.size size && Nat.ble (off + size) c.length then fillA place (splice c off v.cells.toList) rest else none
def partsA (G : Nat) (t : Tm) : List (Nat × Operand) → Option (List (Nat × Value))
  | [] => some []
  | (i, x) :: xs => match opd G t x with
    | none => none
    | some v => match partsA G t xs with
      | none => none
      | some vs => some ((i, v) :: vs)
def placesA (P : Program) : List Field → Option (List (Nat × Nat))
  | [] => some []
  | f :: fs => match sizeT P f.type with
    | none => none
    | some n => match placesA P fs with
      | none => none
      | some l => some ((f.offset, n) :: l)
def buildA (P : Program) (t : TypeId) (parts : List (Nat × Value)) : Option Value :=
  match zeroT P t with
  | none => none
  | some z => bif !flat z then none else match P.underlying t with
    | some (.struct fs) => match placesA P fs.toList with
      | none => none
      | some pl => (fillA (pl[·]?) z.cells.toList parts).map (fun c => .agg c.toArray)
    | some (.array _ e) => match sizeT P e with
      | none => none
      | some n => (fillA (fun i => some (i * n, n)) z.cells.toList parts).map (fun c => .agg c.toArray)
    | _ => none
def zerosA (z : List Value) : Nat → List Value
  | 0 => []
  | n + 1 => z ++ zerosA z n
def buildSliceA (P : Program) (t : TypeId) (len : Nat) (parts : List (Nat × Value)) : Option (AObj × (Nat → Value)) :=
  match P.underlying t with
  | some (.slice e) => match sizeT P e, zeroT P e with
    | some n, some z =>
      bif Nat.beq z.cells.size n && Nat.ble (len * n) 16777216 && Nat.ble 1 n && flat z then
      match fillA (fun i => some (i * n, n)) (zerosA z.cells.toList len) parts with
      | none => none
      | some c => some (.row c e, fun b => .slice (some ⟨b, 0, none⟩) len len)
      else none
    | _, _ => none
  | _ => none
def makeSliceA (P : Program) (t : TypeId) (l c : Value) : Option (AObj × (Nat → Value)) :=
  match P.underlying t, l, c with
  | some (.slice e), .int _ l, .int _ c => match P.info? e with
    | some i => match i.zero with
      | some z => bif decide (0 ≤ l) && decide (l ≤ c) && decide (c ≤ 100000) && Nat.ble i.bytes 100000 && Nat.beq z.cells.size i.size && flat z && Nat.ble 1 i.size then
          some (.row (zerosA z.cells.toList c.toNat) e, fun b => .slice (some ⟨b, 0, none⟩) l.toNat c.toNat)
        else none
      | none => none
    | none => none
  | _, _, _ => none
def indexAddrA (P : Program) (t : TypeId) (x ix : Value) : Option Value :=
  match P.underlying t, x, ix with
  | some (.slice e), .slice (some ⟨b, o, none⟩) len _, .int _ i => match sizeT P e with
    | some n => bif decide (0 ≤ i) && decide (i < len) then some (.pointer (some ⟨b, o + i.toNat * n, none⟩)) else none
    | none => none
  | some (.array len e), .pointer (some ⟨b, o, none⟩), .int _ i => match sizeT P e with
    | some n => bif decide (0 ≤ i) && decide (i < len) then some (.pointer (some ⟨b, o + i.toNat * n, none⟩)) else none
    | none => none
  | _, _, _ => none
def fieldAddrA (P : Program) (t : TypeId) (x : Value) (f : Nat) : Option Value :=
  match P.underlying t, x with
  | some (.struct fs), .pointer (some ⟨b, o, none⟩) => match fs[f]? with
    | some fd => match sizeT P fd.type with
      | some (_ + 1) => some (.pointer (some ⟨b, o + fd.offset, none⟩))
      | _ => none
    | none => none
  | _, _ => none
def fieldA (P : Program) (t : TypeId) (x : Value) (f : Nat) : Option Value :=
  match P.underlying t, x with
  | some (.struct fs), .agg cs => match fs[f]? with
    | some fd => partA P fd.type cs.toList fd.offset
    | none => none
  | _, _ => none
def indexA (P : Program) (t : TypeId) (x ix : Value) : Option Value :=
  match P.underlying t, x, ix with
  | some (.array len e), .agg cs, .int _ i => match sizeT P e with
    | some n => bif decide (0 ≤ i) && decide (i < len) then partA P e cs.toList (i.toNat * n) else none
    | none => none
  | _, _, _ => none
def boundA : Option Value → Nat → Option Nat
  | none, d => some d
  | some (.int _ i), _ => bif decide (0 ≤ i) then some i.toNat else none
  | some _, _ => none
def sliceA (P : Program) (t : TypeId) (x : Value) (lo hi mx : Option Value) : Option Value :=
  match P.underlying t, x with
  | some (.slice e), .slice (some ⟨b, o, none⟩) len cap => match sizeT P e, boundA lo 0, boundA hi len, boundA mx cap with
    | some n, some l, some h, some m =>
      bif Nat.ble l h && Nat.ble h m && Nat.ble m cap && (mx.isNone || hi.isSome) then
        (bif Nat.blt l m || Nat.beq l 0 then some (.slice (some ⟨b, o + l * n, none⟩) (h - l) (m - l)) else some (.slice (some ⟨1000000, 0, none⟩) 0 0))
      else none
    | _, _, _, _ => none
  | some (.slice e), .slice none 0 0 => match sizeT P e, boundA lo 0, boundA hi 0, boundA mx 0 with
    | some _, some 0, some 0, some 0 => bif mx.isNone || hi.isSome then some (.slice none 0 0) else none
    | _, _, _, _ => none
  | some (.array k e), .pointer (some ⟨b, o, none⟩) => match sizeT P e, boundA lo 0, boundA hi k, boundA mx k with
    | some n, some l, some h, some m =>
      bif Nat.ble l h && Nat.ble h m && Nat.ble m k && (mx.isNone || hi.isSome) && Nat.blt l m then some (.slice (some ⟨b, o + l * n, none⟩) (h - l) (m - l)) else none
    | _, _, _, _ => none
  | _, _ => none
def eqA (x y : Value) : Option Bool :=
  match x, y with
  | .pointer (some _), .pointer none | .pointer none, .pointer (some _) => some false
  | .slice (some _) _ _, .slice none _ _ | .slice none _ _, .slice (some _) _ _ => some false
  | .map (some _), .map none | .map none, .map (some _) => some false
  | .func _ _ _, .nilFunc | .nilFunc, .func _ _ _ => some false
  | .iface _ _, .nilIface | .nilIface, .iface _ _ => some false
  | .pointer (some ⟨b, o, none⟩), .pointer (some ⟨c, p, none⟩) => bif Nat.beq b c then some (Nat.beq o p) else none
  | .iface t _, .iface u _ => bif Nat.beq t u then none else some false
  | _, _ => none
def eqKind (P : Program) (t : TypeId) (x : Value) : Bool :=
  match P.underlying t, x with
  | some (.pointer e), .pointer _ => Nat.blt 0 ((sizeT P e).getD 0)
  | some (.slice _), .slice _ _ _ | some (.map _ _), .map _ | some (.func _ _ _), .func _ _ _ | some (.func _ _ _), .nilFunc | some (.interface _), .iface _ _ | some (.interface _), .nilIface => true
  | _, _ => false
def mapOf (hp : Hp) : Value → Option (Nat × List MapEntry × Nat)
  | .map (some r) => match hp.get r with
    | .map es ck => some (r, es, ck)
    | _ => none
  | _ => none
def keyOk (P : Program) (kt : TypeId) (k : Value) : Bool := match P.underlying kt, k with
  | some (.int _), .int _ _ | some .string, .string _ | some .bool, .bool _ => true
  | _, _ => false
def esOf (hp : Hp) : Value → Option (List MapEntry)
  | .map none => some []
  | .map (some r) => match hp.get r with
    | .map es _ => some es
    | _ => none
  | _ => none
def lookupA (P : Program) (hp : Hp) (t : TypeId) (x k : Value) (ok : Bool) : Option Value :=
  match P.underlying t with
  | some (.map kt e) => bif !keyOk P kt k then none else match P.underlying kt, zeroT P e with
    | some d, some z =>
      match esOf hp x with
      | none => none
      | some es => match Instr.findNow d k es 0 with
        | none => none
        | some r => match r with
          | some (_, v) => some (bif ok then .tuple #[v, .bool true] else v)
          | none => bif flat z then some (bif ok then .tuple #[z, .bool false] else z) else none
    | _, _ => none
  | _ => none
def updateA (P : Program) (G : Nat) (hp : Hp) (t : TypeId) (m k v : Value) : Option Hp :=
  match P.underlying t with
  | some (.map kt _) => bif !keyOk P kt k then none else match P.underlying kt, mapOf hp m with
    | some d, some (r, es, ck) => bif Nat.blt r G then none else match Instr.findNow d k es 0 with
      | none => none
      | some (some (i, _)) => some (hp.put r (.map (es.modify i fun e => ⟨k, v, e.born⟩) ck))
      | some none => some (hp.put r (.map (es ++ [⟨k, v, ck⟩]) (ck + 1)))
    | _, _ => none
  | _ => none
def cellsIn (hp : Hp) (n : Nat) : Value → Option (List Value × Nat)
  | .slice (some ⟨b, o, none⟩) len _ => bif Nat.beq b 1000000 && Nat.beq len 0 then some ([], 0) else match cellsOf (hp.get b) with
    | some (c, _) => bif Nat.ble (o + len * n) c.length then some ((c.drop o).take (len * n), len) else none
    | none => none
  | .slice none 0 0 => some ([], 0)
  | .string s => some (s.data.toList.map fun b => .int .u8 b.toNat, s.size)
  | _ => none
def srcOk (xd : TypeDesc) (x : Value) (n : Nat) : Bool := match xd, x with
  | .slice _, .slice _ _ _ => true
  | .string, .string _ => Nat.beq n 1
  | _, _ => false
def appendTo (G : Nat) (hp : Hp) (e n : Nat) (new : List Value) (k : Nat) (s : Value) : Option (Value × Hp) := match s with
  | .slice none 0 0 => bif Nat.beq k 0 then some (s, hp) else match hp.new (.row new e) with
    | none => none
    | some (b, hp) => some (.slice (some ⟨b, 0, none⟩) k k, hp)
  | .slice (some ⟨b, o, none⟩) len cap =>
    bif !Nat.ble len cap then none else bif Nat.beq k 0 then some (s, hp) else
    bif Nat.ble (len + k) cap then (match storeCellsA hp G b (o + len * n) new with
      | none => none
      | some hp => some (.slice (some ⟨b, o, none⟩) (len + k) cap, hp))
    else match hp.get b with
      | .row c e' => bif Nat.beq o 0 && Nat.beq c.length (len * n) && Nat.beq e e' && Nat.beq cap len && Nat.ble (len + k) 1000000 && !Nat.blt b G && Nat.blt b 1000000 then
          match (hp.put b .dead).new (.row (c ++ new) e) with
          | none => none
          | some (b', hp) => some (.slice (some ⟨b', 0, none⟩) (len + k) (len + k), hp)
        else none
      | _ => none
  | _ => none
def appendA (P : Program) (G : Nat) (hp : Hp) (ts : Array TypeId) (args : List Value) : Option (Value × Hp) :=
  match ts.toList, args with
  | [st, xt], [s, x] => match P.underlying st, P.underlying xt with
    | some (.slice e), some xd => match P.info? e with
      | none => none
      | some i => match i.zero, cellsIn hp i.size x with
        | some z, some (new, k) => bif Nat.ble 1 i.size && Nat.ble i.bytes 100000 && Nat.beq z.cells.size i.size && srcOk xd x i.size && new.all scal && Nat.ble k 1000000 then appendTo G hp e i.size new k s else none
        | _, _ => none
    | _, _ => none
  | _, _ => none
def isStr : Value → Bool
  | .string _ => true
  | _ => false
def copyA (P : Program) (G : Nat) (hp : Hp) (ts : Array TypeId) (args : List Value) : Option (Value × Hp) :=
  match ts[0]?, args with
  | some dt, [d, x] => match P.underlying dt with
    | some (.slice e) => match sizeT P e with
      | none => none
      | some n => match cellsIn hp n x, d with
        | some (c, k), .slice (some ⟨b, o, none⟩) len _ => bif (!isStr x || Nat.beq n 1) && !Nat.beq b 1000000 then (storeCellsA hp G b o (c.take (Nat.min k len * n))).map (fun hp => (goInt (Nat.min k len), hp)) else none
        | _, _ => none
    | _ => none
  | _, _ => none
def lenA (P : Program) (hp : Hp) (ts : Array TypeId) (args : List Value) : Option Value :=
  match ts[0]?, args with
  | some t, [x] => match P.underlying t, x with
    | some .string, .string s => some (goInt s.size)
    | some (.array n _), _ => some (goInt n)
    | some (.slice _), .slice _ n _ => some (goInt n)
    | some (.map _ _), .map none => some (goInt 0)
    | some (.map _ _), .map (some r) => (mapOf hp (.map (some r))).map (fun q => goInt q.2.1.length)
    | _, _ => none
  | _, _ => none
def rangeA (P : Program) (hp : Hp) (t : TypeId) (x : Value) : Option (Value × Hp) :=
  match P.underlying t, x with
  | some .string, .string s => match hp.new (.sit s 0) with
    | some (b, hp) => some (.pointer (some ⟨b, 0, none⟩), hp)
    | none => none
  | _, _ => none
def nextA (G : Nat) (hp : Hp) (it : Value) (isString : Bool) : Option (Value × Hp) :=
  match addrOf it with
  | some (b, 0) => match hp.get b with
    | .sit s pos => bif !isString || Nat.blt b G then none else bif Nat.blt pos s.size then
        some (.tuple #[.bool true, goInt pos, .int .i32 (Utf8.decode s pos).1], hp.put b (.sit s (pos + (Utf8.decode s pos).2)))
      else some (.tuple #[.bool false], hp)
    | _ => none
  | _ => none
def assertA (P : Program) (x : Value) (xt at_ : TypeId) (ok : Bool) : Option Value :=
  let holds (v : Value) : Option Value := some (bif ok then .tuple #[v, .bool true] else v)
  let fails : Option Value := bif !ok then none else match zeroT P at_ with
    | some z => bif flat z then some (.tuple #[z, .bool false]) else none
    | none => none
  match P.underlying at_, x with
  | some (.interface _), .nilIface => fails
  | some (.interface want), .iface t _ => match P.info? t with
    | some i => match Instr.missingMethod want i.methods with
      | none => holds x
      | some _ => fails
    | none => none
  | some _, .nilIface => fails
  | some _, .iface t v => bif Nat.beq t at_ then holds v else fails
  | _, _ => none
def bytesA (c : List Value) (acc : ByteArray) : Option ByteArray :=
  match c with
  | [] => some acc
  | .int .u8 n :: c => bytesA c (acc.push (UInt8.ofNat n.toNat))
  | _ :: _ => none
def byteRow (P : Program) (dst : TypeId) (x : Value) : Option (AObj × (Nat → Value)) :=
  match P.underlying dst, x with
  | some (.slice e), .string s => match P.underlying e, sizeT P e with
    | some (.int .u8), some 1 => some (.row (s.data.toList.map fun b => .int .u8 b.toNat) e, fun b => .slice (some ⟨b, 0, none⟩) s.size s.size)
    | _, _ => none
  | _, _ => none
def convertA (P : Program) (hp : Hp) (src dst : TypeId) (x : Value) : Option Value :=
  match P.underlying src, P.underlying dst, x with
  | some (.slice e), some .string, .slice (some ⟨b, o, none⟩) len _ => match P.underlying e, cellsIn hp 1 x with
    | some (.int .u8), some (c, _) => (bytesA c ByteArray.empty).map .string
    | _, _ => none
  | _, _, _ => none
def strsA : List Value → Option (List ByteArray)
  | [] => some []
  | .string s :: vs => (strsA vs).map (s :: ·)
  | _ => none
def ptrTo (b : Nat) : Value := .pointer (some ⟨b, 0, none⟩)
def lAlloc (P : Program) (e : TypeId) : Option (AObj × (Nat → Value)) := match zeroT P e with
  | some z => bif flat z then some (.cells z.cells.toList e, ptrTo) else none
  | none => none
def lBox (G : Nat) (t : Tm) (e : TypeId) (x : Operand) : Option (AObj × (Nat → Value)) := match opd G t x with
  | some v => some (.cells v.cells.toList e, ptrTo)
  | none => none
def lSlice (P : Program) (G : Nat) (t : Tm) (T : TypeId) (n : Nat) (ps : Array (Nat × Operand)) : Option (AObj × (Nat → Value)) := match partsA G t ps.toList with
  | some ps => buildSliceA P T n ps
  | none => none
def lMap (P : Program) (t : Tm) (T : TypeId) (r : Option Operand) : Option (AObj × (Nat → Value)) := match r with
  | none => some (.map [] 0, fun b => .map (some b))
  | some x => match ev t x, P.underlying T with
    | .int _ _, some (.map _ _) => some (.map [] 0, fun b => .map (some b))
    | _, _ => none
def lBytes (P : Program) (t : Tm) (s d : TypeId) (x : Operand) : Option (AObj × (Nat → Value)) := match P.underlying s with
  | some _ => byteRow P d (ev t x)
  | none => none
def layOf (P : Program) (G : Nat) (o : Op) (t : Tm) : Option (AObj × (Nat → Value)) := match o with
  | .alloc e => lAlloc P e
  | .box e x => lBox G t e x
  | .buildSlice T n ps => lSlice P G t T n ps
  | .makeMap T r => lMap P t T r
  | .makeSlice T l c => makeSliceA P T (ev t l) (ev t c)
  | .convert s d x => lBytes P t s d x
  | _ => none
def purely : Op → Bool
  | .alloc _ | .box _ _ | .buildSlice _ _ _ | .makeMap _ _ | .makeSlice _ _ _ | .convert _ _ _ | .range _ _ | .load _ _ | .select _ _ => false
  | _ => true
def pureOp (P : Program) (o : Oper) (t : Tm) (hp : Hp) : Option (Value × Hp) :=
  bif o.op.operands.toList.all (fun x => flat (ev t x)) && purely o.op then
    match pureRun P (execOp (ev t) o) with
    | some (.value v) => bif flat v then some (v, hp) else none
    | _ => none
  else none
def bPick (G : Nat) (t : Tm) (hp : Hp) (c a b : Operand) : Option (Value × Hp) := match ev t c, opd G t a, opd G t b with
  | .bool q, some x, some y => some (bif q then x else y, hp)
  | _, _, _ => none
def bBuild (P : Program) (G : Nat) (t : Tm) (hp : Hp) (T : TypeId) (ps : Array (Nat × Operand)) : Option (Value × Hp) := match partsA G t ps.toList with
  | some ps => (buildA P T ps).map (·, hp)
  | none => none
def bLoad (P : Program) (G : Nat) (t : Tm) (hp : Hp) (T : TypeId) (a : Operand) : Option (Value × Hp) := match opd G t a with
  | some a => (loadA P hp T a).map (·, hp)
  | none => none
def bStore (P : Program) (G : Nat) (t : Tm) (hp : Hp) (T : TypeId) (a x : Operand) : Option (Value × Hp) := match opd G t a, opd G t x with
  | some a, some x => (storeA P G hp T a x).map (undef, ·)
  | _, _ => none
def bNil (G : Nat) (t : Tm) (hp : Hp) (x : Operand) : Option (Value × Hp) := match opd G t x with
  | some (.pointer (some a)) => some (.pointer (some a), hp)
  | some (.func (.func f) a b) => some (.func (.func f) a b, hp)
  | some (.iface a b) => some (.iface a b, hp)
  | _ => none
def intQ (op : BinOp) (k : IntKind) (a b : Int) : Option Value := match op with
  | .add => some (.int k (k.wrap (a + b)))
  | .sub => some (.int k (k.wrap (a - b)))
  | .mul => some (.int k (k.wrap (a * b)))
  | .eql => some (.bool (decide (a = b)))
  | .neq => some (.bool (!decide (a = b)))
  | .lss => some (.bool (decide (a < b)))
  | .leq => some (.bool (decide (a ≤ b)))
  | .gtr => some (.bool (decide (b < a)))
  | .geq => some (.bool (decide (b ≤ a)))
  | _ => none
def kindNo : IntKind → Nat
  | .i8 => 2 | .i16 => 3 | .i32 => 4 | .i64 => 5 | .u8 => 6 | .u16 => 7 | .u32 => 8 | .u64 => 9
def anyI (k : IntKind) : Value := .chan (some (kindNo k))
def anyB : Value := .chan (some 1)
def kindOf : Nat → Option IntKind
  | 2 => some .i8 | 3 => some .i16 | 4 => some .i32 | 5 => some .i64 | 6 => some .u8 | 7 => some .u16 | 8 => some .u32 | 9 => some .u64 | _ => none
def intKind : Value → Option IntKind
  | .int k _ => some k
  | .chan (some n) => kindOf n
  | _ => none
def anyQ (op : BinOp) (x y : Value) : Option Value := match intKind x, intKind y with
  | some k, some k' => bif !decide (k = k') then none else match op with
    | .add | .sub | .mul => some (anyI k)
    | .eql | .neq | .lss | .leq | .gtr | .geq => some anyB
    | .rem => match y with
      | .int _ n => bif decide (0 < n) then some (anyI k) else none
      | _ => none
    | _ => none
  | _, _ => none
def eqQ (P : Program) (hp : Hp) (op : BinOp) (T : TypeId) (x y : Value) : Option (Value × Hp) :=
  bif eqKind P T x && eqKind P T y then match op, eqA x y with
    | .eql, some q => some (.bool q, hp)
    | .neq, some q => some (.bool (!q), hp)
    | _, _ => none
  else none
def bBin (P : Program) (G : Nat) (t : Tm) (hp : Hp) (op : BinOp) (T : TypeId) (x y : Operand) : Option (Value × Hp) := match opd G t x, opd G t y with
  | some (.int k a), some (.int k' b) => bif decide (k = k') then (intQ op k a b).map (·, hp) else none
  | some x, some y => match anyQ op x y with
    | some v => some (v, hp)
    | none => eqQ P hp op T x y
  | _, _ => none
def anyC (P : Program) (s d : TypeId) (x : Value) : Option Value := match x with
  | .chan (some n) => match kindOf n, P.underlying s, P.underlying d with
    | some _, some _, some (.int k) => some (anyI k)
    | _, _, _ => none
  | _ => none
def bConv (P : Program) (G : Nat) (t : Tm) (hp : Hp) (s d : TypeId) (x : Operand) : Option (Value × Hp) := match opd G t x with
  | some v => match convertA P hp s d v with
    | some r => some (r, hp)
    | none => match anyC P s d v with
      | some r => some (r, hp)
      | none => bif flat v then match pureRun P (convert s d v) with
        | some v => bif flat v then some (v, hp) else none
        | none => none
      else none
  | none => none
def bIface (P : Program) (G : Nat) (t : Tm) (hp : Hp) (T : TypeId) (x : Operand) : Option (Value × Hp) := match P.underlying T, opd G t x with
  | some (.interface _), _ => none
  | some _, some v => some (.iface T v, hp)
  | _, _ => none
def bFunc (G : Nat) (t : Tm) (hp : Hp) (f : FuncId) (a b : Array Operand) : Option (Value × Hp) := match opds G t a.toList, opds G t b.toList with
  | some a, some b => some (.func (.func f) a.toArray b.toArray, hp)
  | _, _ => none
def bSlice (P : Program) (G : Nat) (t : Tm) (hp : Hp) (T : TypeId) (x : Operand) (l h m : Option Operand) : Option (Value × Hp) := match opd G t x with
  | some v => (sliceA P T v (l.map (ev t)) (h.map (ev t)) (m.map (ev t))).map (·, hp)
  | none => none
def bFieldAddr (P : Program) (G : Nat) (t : Tm) (hp : Hp) (T : TypeId) (x : Operand) (f : Nat) : Option (Value × Hp) := match opd G t x with
  | some v => (fieldAddrA P T v f).map (·, hp)
  | none => none
def bField (P : Program) (G : Nat) (t : Tm) (hp : Hp) (T : TypeId) (x : Operand) (f : Nat) : Option (Value × Hp) := match opd G t x with
  | some v => (fieldA P T v f).map (·, hp)
  | none => none
def bIndexAddr (P : Program) (G : Nat) (t : Tm) (hp : Hp) (T : TypeId) (x i : Operand) : Option (Value × Hp) := match opd G t x with
  | some v => (indexAddrA P T v (ev t i)).map (·, hp)
  | none => none
def bIndex (P : Program) (G : Nat) (t : Tm) (hp : Hp) (T : TypeId) (x i : Operand) : Option (Value × Hp) := match opd G t x with
  | some v => (indexA P T v (ev t i)).map (·, hp)
  | none => none
def bLookup (P : Program) (G : Nat) (t : Tm) (hp : Hp) (T : TypeId) (x k : Operand) (ok : Bool) : Option (Value × Hp) := match opd G t x with
  | some v => (lookupA P hp T v (ev t k) ok).map (·, hp)
  | none => none
def bUpdate (P : Program) (G : Nat) (t : Tm) (hp : Hp) (T : TypeId) (m k x : Operand) : Option (Value × Hp) := match opd G t m, opd G t x with
  | some m, some v => (updateA P G hp T m (ev t k) v).map (undef, ·)
  | _, _ => none
def bRange (P : Program) (G : Nat) (t : Tm) (hp : Hp) (T : TypeId) (x : Operand) : Option (Value × Hp) := match opd G t x with
  | some v => rangeA P hp T v
  | none => none
def bNext (G : Nat) (t : Tm) (hp : Hp) (it : Operand) (s : Bool) : Option (Value × Hp) := match opd G t it with
  | some v => nextA G hp v s
  | none => none
def bAssert (P : Program) (G : Nat) (t : Tm) (hp : Hp) (x : Operand) (a b : TypeId) (ok : Bool) : Option (Value × Hp) := match opd G t x with
  | some v => (assertA P v a b ok).map (·, hp)
  | none => none
def bExtract (G : Nat) (t : Tm) (hp : Hp) (x : Operand) (i : Nat) : Option (Value × Hp) := match opd G t x with
  | some (.tuple vs) => match vs[i]? with
    | some v => some (v, hp)
    | none => none
  | _ => none
def bCall (P : Program) (G : Nat) (t : Tm) (hp : Hp) (c : Call) : Option (Value × Hp) := match c.callee, opds G t c.args.toList with
  | .builtin .append, some args => appendA P G hp c.argTypes args
  | .builtin .copy, some args => copyA P G hp c.argTypes args
  | .builtin .len, some args => (lenA P hp c.argTypes args).map (·, hp)
  | _, _ => none
def sOp (P : Program) (G : Nat) (o : Op) (t : Tm) (hp : Hp) : Option (Value × Hp) :=
  match o with
  | .move x => (opd G t x).map (·, hp)
  | .assign x => (opd G t x).map (·, hp)
  | .pick c a b => bPick G t hp c a b
  | .build T ps => bBuild P G t hp T ps
  | .load T a => bLoad P G t hp T a
  | .store T a x => bStore P G t hp T a x
  | .nilCheck x => bNil G t hp x
  | .binOp op T x y _ => bBin P G t hp op T x y
  | .convert s d x => bConv P G t hp s d x
  | .makeInterface T x => bIface P G t hp T x
  | .makeFunc (.func f) a b => bFunc G t hp f a b
  | .slice T x l h m => bSlice P G t hp T x l h m
  | .fieldAddr T x f => bFieldAddr P G t hp T x f
  | .field T x f => bField P G t hp T x f
  | .indexAddr T x i => bIndexAddr P G t hp T x i
  | .index T x i => bIndex P G t hp T x i
  | .lookup T x k ok => bLookup P G t hp T x k ok
  | .mapUpdate T m k x => bUpdate P G t hp T m k x
  | .insert T m k x => bUpdate P G t hp T m k x
  | .range T x => bRange P G t hp T x
  | .next it s => bNext G t hp it s
  | .typeAssert x a b ok => bAssert P G t hp x a b ok
  | .extract x i => bExtract G t hp x i
  | .call c => bCall P G t hp c
  | _ => none
def bOp (P : Program) (G : Nat) (o : Oper) (t : Tm) (hp : Hp) : Option (Value × Hp) :=
  match sOp P G o.op t hp with
  | some r => some r
  | none => pureOp P o t hp
def aOp (P : Program) (G : Nat) (o : Oper) (t : Tm) (hp : Hp) : Option (Value × Hp) :=
  match layOf P G o.op t with
  | some (ob, mk) => match hp.new ob with
    | some (b, hp) => some (mk b, hp)
    | none => none
  | none => bOp P G o t hp
inductive Ex where
  | normal
  | exit (id : Nat)
  | ret
structure St where mk ::
  t : Tm
  sz : Nat
  hp : Hp
def St.to (s : St) (d : Option Tmp) (v : Value) (hp : Hp) : Option St := match s with
  | ⟨t, sz, _⟩ => match d with
    | some i => bif Nat.blt i sz then some ⟨t.set DT i v, sz, hp⟩ else none
    | none => some ⟨t, sz, hp⟩
theorem St.to_eq (s : St) (d : Option Tmp) (v : Value) (hp : Hp) : s.to d v hp = match d with
    | some i => bif Nat.blt i s.sz then some ⟨s.t.set DT i v, s.sz, hp⟩ else none
    | none => some ⟨s.t, s.sz, hp⟩ := rfl
def wantA (ops : Array Oper) (o : Oper) (t : Tm) : Bool := match o.guard with
  | none => true
  | some (j, w) => match (ops[j]?).bind (·.dst) with
    | some d => match (t.get DT d).getD undef with
      | .bool b => b == w
      | _ => false
    | none => false
def guardOk (ops : Array Oper) (o : Oper) (t : Tm) : Bool := match o.guard with
  | none => true
  | some (j, _) => match (ops[j]?).bind (·.dst) with
    | some d => match (t.get DT d).getD undef with
      | .chan (some _) => false
      | _ => true
    | none => true
abbrev CallF := Nat → List Value → Hp → Option (Value × Hp)
def isCall : Op → Option (Operand × Array Operand)
  | .call { callee := .value f, args, .. } => some (f, args)
  | _ => none
def runOp (P : Program) (G : Nat) (cf : CallF) (ops : Array Oper) (o : Oper) (t : Tm) (hp : Hp) : Option (Value × Hp) :=
  bif !guardOk ops o t then none else bif wantA ops o t then
    match isCall o.op with
    | some (f, aq) => match opd G t f, opds G t aq.toList with
      | some (.func (.func g) first cap), some args => cf g (first.toList ++ args ++ cap.toList) hp
      | _, _ => none
    | none => aOp P G o t hp
  else some (undef, hp)
def doOp (P : Program) (G : Nat) (cf : CallF) (ops : Array Oper) (o : Oper) (s : St) : Option St :=
  match runOp P G cf ops o s.t s.hp with
  | some (v, hp) => s.to o.dst v hp
  | none => none
def doOps (P : Program) (G : Nat) (cf : CallF) (ops : Array Oper) : List Oper → St → Option St
  | [], s => some s
  | o :: os, s => match doOp P G cf ops o s with
    | some s => doOps P G cf ops os s
    | none => none
def actsOp : Op → Bool
  | .store _ _ _ | .mapUpdate _ _ _ _ | .insert _ _ _ _ | .range _ _ | .next _ _ => true
  | .call { callee := .builtin .len, .. } => false
  | .call { callee := .builtin .min, .. } => false
  | .call { callee := .builtin .max, .. } => false
  | .call _ => true
  | _ => false
mutual
def eqV : Value → Value → Bool
  | .bool a, .bool b => a == b
  | .int j a, .int k b => decide (j = k) && decide (a = b)
  | .float j a, .float k b => decide (j = k) && decide (a = b)
  | .string a, .string b => a == b
  | .pointer a, .pointer b => decide (a = b)
  | .slice a n c, .slice b m d => decide (a = b) && Nat.beq n m && Nat.beq c d
  | .map a, .map b => decide (a = b)
  | .func (.func f) a b, .func (.func g) c d => Nat.beq f g && eqVs a.toList c.toList && eqVs b.toList d.toList
  | .nilFunc, .nilFunc => true
  | .nilIface, .nilIface => true
  | .iface t v, .iface u w => Nat.beq t u && eqV v w
  | .agg a, .agg b => eqVs a.toList b.toList
  | .tuple a, .tuple b => eqVs a.toList b.toList
  | _, _ => false
def eqVs : List Value → List Value → Bool
  | [], [] => true
  | a :: aq, b :: bs => eqV a b && eqVs aq bs
  | _, _ => false
end
def eqO : AObj → AObj → Bool
  | .cells a e, .cells b f => eqVs a b && Nat.beq e f
  | .row a e, .row b f => eqVs a b && Nat.beq e f
  | .map es k, .map fs l => es.isEmpty && fs.isEmpty && Nat.beq k l
  | _, _ => false
def dirs (o : Oper) : List Nat := o.after.toList.filterMap fun e => bif Region.binds .any e then some e.on else none
def befGo : List Oper → List Nat → List Nat
  | [], acc => acc
  | o :: os, acc => befGo os (acc ++ [(dirs o).foldl (fun s e => s ||| 2 ^ e ||| acc.getD e 0) 0])
def befs (ops : Array Oper) : List Nat := befGo ops.toList []
def ahead (ops : Array Oper) (e i : Nat) : Bool := ((befs ops).getD e 0).testBit i
def readyA (ops : Array Oper) (done : List Nat) (i : Nat) : Bool := !done.contains i && (match ops[i]? with
  | some o => (dirs o).all done.contains
  | none => false)
structure Rd where mk ::
  i : Nat
  o : Oper
  t : Tm
  v : Value
  b : Option (Nat × AObj)
structure Dn where mk ::
  done : List Nat
  rds : List Rd
  s : St
def satA (P : Program) (G : Nat) (ops : Array Oper) : List Nat → Dn → Option Dn
  | [], d => some d
  | i :: is, d => bif !readyA ops d.done i then satA P G ops is d else
    match ops[i]? with
    | none => none
    | some o => bif actsOp o.op then satA P G ops is d else bif !guardOk ops o d.s.t then none else bif !wantA ops o d.s.t then (match d.s.to o.dst undef d.s.hp with
        | none => none
        | some s => satA P G ops is ⟨i :: d.done, d.rds, s⟩) else
      match layOf P G o.op d.s.t with
      | some (ob, mk) => (match d.s.hp.new ob with
        | none => none
        | some (b, hp) => match d.s.to o.dst (mk b) hp with
          | none => none
          | some s => satA P G ops is ⟨i :: d.done, ⟨i, o, d.s.t, mk b, some (b, ob)⟩ :: d.rds, s⟩)
      | none => match bOp P G o d.s.t d.s.hp with
        | none => none
        | some (v, _) => match d.s.to o.dst v d.s.hp with
          | none => none
          | some s => satA P G ops is ⟨i :: d.done, ⟨i, o, d.s.t, v, none⟩ :: d.rds, s⟩
def actsAt (ops : Array Oper) (e : Nat) : Bool := match ops[e]? with
  | some o => actsOp o.op
  | none => false
def staysA (P : Program) (G : Nat) (ops : Array Oper) (done : List Nat) (hp : Hp) (r : Rd) : Bool :=
  done.any (fun e => actsAt ops e && ahead ops e r.i) || (match r.b with
    | some (b, ob) => eqO (hp.get b) ob
    | none => match bOp P G r.o r.t hp with
      | some (v, _) => eqV v r.v
      | none => false)
def contA (P : Program) (G : Nat) (cf : CallF) (ops : Array Oper) (rec : Dn → Option St) (d : Dn) : Option St :=
  match (List.range ops.size).filter (readyA ops d.done) with
  | [] => bif Nat.beq d.done.length ops.size then some d.s else none
  | [e] => match ops[e]? with
    | none => none
    | some o => bif !actsOp o.op then none else match doOp P G cf ops o d.s with
      | none => none
      | some s => rec ⟨e :: d.done, d.rds, s⟩
  | _ => none
def drawGo (P : Program) (G : Nat) (cf : CallF) (ops : Array Oper) : Nat → Dn → Option St
  | 0, _ => none
  | n + 1, d => match satA P G ops (List.range ops.size) d with
    | none => none
    | some d => bif !d.rds.all (staysA P G ops d.done d.s.hp) then none else contA P G cf ops (drawGo P G cf ops n) d
def tmpsOf (ops : Array Oper) (o : Oper) : List Tmp := o.dst.toList ++ (o.op.operands.toList.filterMap fun | .tmp t => some t | _ => none) ++
  (match o.guard with
   | some (j, _) => ((ops[j]?).bind (·.dst)).toList
   | none => [])
def regOk (ops : Array Oper) : Bool :=
  (List.range ops.size).all fun j => match ops[j]? with
    | none => false
    | some o => (dirs o).all (fun e => Nat.blt e j) && (List.range j).all fun i => match ops[i]? with
      | none => false
      | some p => ahead ops j i || ((match p.dst with | some d => !(tmpsOf ops o).contains d | none => true) && (match o.dst with | some d => !(tmpsOf ops p).contains d | none => true))
def drawA (P : Program) (G : Nat) (cf : CallF) (ops : Array Oper) (s : St) : Option St :=
  bif regOk ops then drawGo P G cf ops (ops.size + 1) ⟨[], [], s⟩ else none
def resA (P : Program) (s : St) : List ResultVar → Option (List Value)
  | [] => some []
  | .tmp i :: rs => match resA P s rs with
    | some vs => some ((s.t.get DT i).getD undef :: vs)
    | none => none
  | .cell a T :: rs => match loadA P s.hp T ((s.t.get DT a).getD undef), resA P s rs with
    | some v, some vs => some (v :: vs)
    | _, _ => none
def oneOr (vs : List Value) : Value := match vs with
  | [v] => v
  | vs => .tuple vs.toArray
def argsT : List Value → Nat → Tm → Tm
  | [], _, t => t
  | v :: vs, i, t => argsT vs (i + 1) (t.set DT i v)
section
variable (P : Program) (G : Nat) (X : CallF)
def callA (rec : Code → St → Option (Ex × St)) : CallF := fun f args hp =>
  match X f args hp with
  | some r => some r
  | none => match P.funcs[f]? with
    | none => none
    | some fn => match fn.body with
      | none => none
      | some body => bif !(Nat.ble fn.ntmps 1000 && Nat.ble args.length fn.ntmps) then none else match rec body ⟨argsT args 0 .nil, fn.ntmps, hp⟩ with
        | some (.exit _, _) | none => none
        | some (_, s) => match resA P s fn.results.toList with
          | some vs => some (oneOr vs, s.hp)
          | none => none
def loopA (rec : Code → St → Option (Ex × St)) (c : Code) : Nat → St → Option (Ex × St)
  | 0, _ => none
  | m + 1, s => match rec c s with
    | some (.normal, s) => loopA rec c m s
    | r => r
def codeA (rec : Code → St → Option (Ex × St)) (c : Code) (s : St) : Option (Ex × St) :=
  match c with
  | .skip | .label _ => some (.normal, s)
  | .exit id => some (.exit id, s)
  | .ret => some (.ret, s)
  | .region _ ops draw => (bif draw then drawA P G (callA P X rec) ops s else doOps P G (callA P X rec) ops ops.toList s).map (fun s => (.normal, s))
  | .seq a b => match rec a s with
    | some (.normal, s) => rec b s
    | r => r
  | .cond c x y => match ev s.t c with
    | .bool b => rec (bif b then x else y) s
    | _ => none
  | .block id c => match rec c s with
    | some (.exit i, s) => some (bif Nat.beq i id then .normal else .exit i, s)
    | r => r
  | .loop c => loopA rec c 100000 s
  | .scope c => rec c s
  | _ => none
def runA : Nat → Code → St → Option (Ex × St)
  | 0, _, _ => none
  | n + 1, c, s => codeA P G X (runA n) c s
end
end
end Go.Proofs.YtfhnljmoilifnaaGreatDoor.Ae
end
section
namespace Go.Proofs.YtfhnljmoilifnaaGreatDoor.Ae
open Go
set_option linter.unusedVariables false
set_option linter.unusedSimpArgs false
theorem beqT {a b : Nat} (h : a = b) : Nat.beq a b = true := by subst h; exact Nat.beq_refl a
theorem beqF {a b : Nat} (h : a ≠ b) : Nat.beq a b = false := by
  cases e : Nat.beq a b
  · rfl
  · exact absurd (Nat.eq_of_beq_eq_true e) h
theorem eq_beq {a b : Nat} (h : Nat.beq a b = true) : a = b := Nat.eq_of_beq_eq_true h
theorem Tr.get_nil {α : Type} (d i : Nat) : (Tr.nil : Tr α).get d i = none := rfl
theorem Tr.get_node {α : Type} (d : Nat) (l : Tr α) (v : Option α) (r : Tr α) (j : Nat) : (Tr.node l v r).get d j = if j = 0 then v else if j % 2 = 1 then l.get d (j / 2) else r.get d (j / 2 - 1) := by
  show @Bool.rec (fun _ => Option α) (@Bool.rec (fun _ => Option α) (r.get d (j / 2 - 1)) (l.get d (j / 2)) (Nat.beq (j % 2) 1)) v (Nat.beq j 0) = _
  by_cases h : j = 0
  · rw [beqT h, if_pos h]
  · rw [beqF h, if_neg h]
    by_cases h1 : j % 2 = 1
    · rw [beqT h1, if_pos h1]
    · rw [beqF h1, if_neg h1]
theorem Tr.set_node {α : Type} (d : Nat) (l : Tr α) (v : Option α) (r : Tr α) (j : Nat) (x : α) : (Tr.node l v r).set (d + 1) j x = if j = 0 then .node l (some x) r else if j % 2 = 1 then .node (l.set d (j / 2) x) v r else .node l v (r.set d (j / 2 - 1) x) := by
  show @Bool.rec (fun _ => Tr α) (@Bool.rec (fun _ => Tr α) (.node l v (r.set d (j / 2 - 1) x)) (.node (l.set d (j / 2) x) v r) (Nat.beq (j % 2) 1)) (.node l (some x) r) (Nat.beq j 0) = _
  by_cases h : j = 0
  · rw [beqT h, if_pos h]
  · rw [beqF h, if_neg h]
    by_cases h1 : j % 2 = 1
    · rw [beqT h1, if_pos h1]
    · rw [beqF h1, if_neg h1]
theorem Tr.set_nil {α : Type} (d : Nat) (j : Nat) (x : α) : (Tr.nil : Tr α).set (d + 1) j x = (Tr.node .nil none .nil : Tr α).set (d + 1) j x := rfl
theorem Tr.get_set_node {α : Type} (x : α) (d e : Nat) (ih : ∀ (t : Tr α) (i j : Nat), i + 1 < 2 ^ d → (t.set d i x).get e j = if i = j then some x else t.get e j) (l : Tr α) (v : Option α) (r : Tr α) (i j : Nat) (h : i + 1 < 2 ^ (d + 1)) :
    ((Tr.node l v r).set (d + 1) i x).get e j = if i = j then some x else (Tr.node l v r).get e j := by
  have hp : 2 ^ (d + 1) = 2 * 2 ^ d := by omega
  rw [Tr.set_node, Tr.get_node e l v r]
  by_cases h0 : i = 0
  · rw [if_pos h0, Tr.get_node]
    by_cases hj : j = 0
    · rw [if_pos hj, if_pos (by omega)]
    · rw [if_neg hj, if_neg hj, if_neg (show ¬ i = j by omega)]
  · rw [if_neg h0]
    by_cases h1 : i % 2 = 1
    · rw [if_pos h1, Tr.get_node]
      by_cases hj : j = 0
      · rw [if_pos hj, if_pos hj, if_neg (by omega)]
      · rw [if_neg hj, if_neg hj]
        by_cases hj1 : j % 2 = 1
        · rw [if_pos hj1, if_pos hj1, ih l (i / 2) (j / 2) (by omega)]
          by_cases e : i = j
          · rw [if_pos (by omega), if_pos e]
          · rw [if_neg (by omega), if_neg e]
        · rw [if_neg hj1, if_neg hj1, if_neg (by omega)]
    · rw [if_neg h1, Tr.get_node]
      by_cases hj : j = 0
      · rw [if_pos hj, if_pos hj, if_neg (by omega)]
      · rw [if_neg hj, if_neg hj]
        by_cases hj1 : j % 2 = 1
        · rw [if_pos hj1, if_pos hj1, if_neg (by omega)]
        · rw [if_neg hj1, if_neg hj1, ih r (i / 2 - 1) (j / 2 - 1) (by omega)]
          by_cases e : i = j
          · rw [if_pos (by omega), if_pos e]
          · rw [if_neg (by omega), if_neg e]
theorem Tr.get_set' {α : Type} (x : α) (e : Nat) : ∀ (d : Nat) (t : Tr α) (i j : Nat), i + 1 < 2 ^ d → (t.set d i x).get e j = if i = j then some x else t.get e j
  | 0, t, i, j, h => by simp at h
  | d + 1, .nil, i, j, h => by
    rw [Tr.set_nil, Tr.get_set_node x d e (Tr.get_set' x e d) .nil none .nil i j h]
    congr 1
    rw [Tr.get_node, Tr.get_nil]
    simp [Tr.get_nil]
  | d + 1, .node l v r, i, j, h => Tr.get_set_node x d e (Tr.get_set' x e d) l v r i j h
theorem Tr.get_set {α : Type} (x : α) (d : Nat) (t : Tr α) (i j : Nat) (h : i + 1 < 2 ^ d) : (t.set d i x).get d j = if i = j then some x else t.get d j := Tr.get_set' x d d t i j h
abbrev Rho := Nat → Option (Nat × Nat)
def Rho.le (ρ ρ' : Rho) : Prop := ∀ b b', ρ b = some b' → ρ' b = some b'
theorem Rho.le_refl (ρ : Rho) : ρ.le ρ := fun _ _ h => h
theorem Rho.le_trans {a b c : Rho} (h : a.le b) (h' : b.le c) : a.le c := fun x y e => h' x y (h x y e)
def anyR (n : Nat) (v : Value) : Prop := scal v = true ∧ (n = 1 → ∃ b, v = .bool b) ∧ ∀ k, kindOf n = some k → ∃ i, v = .int k i
mutual
def VR (ρ : Rho) : Value → Value → Prop
  | .pointer (some a), v => ∃ b' x, a.spot = none ∧ ρ a.block = some (b', x) ∧ v = .pointer (some ⟨b', a.off, none⟩)
  | .slice (some a) n c, v => (a = ⟨1000000, 0, none⟩ ∧ n = 0 ∧ c = 0 ∧ ∃ a' c', v = .slice (some a') 0 c') ∨ (a.spot = none ∧ ∃ b' x c', ρ a.block = some (b', x) ∧ c ≤ c' ∧ c' ≤ c + x ∧ v = .slice (some ⟨b', a.off, none⟩) n c')
  | .map (some r), v => ∃ r' x, ρ r = some (r', x) ∧ v = .map (some r')
  | .func (.func f) a c, v => ∃ a' c', v = .func (.func f) a' c' ∧ VRs ρ a.toList a'.toList ∧ VRs ρ c.toList c'.toList
  | .iface t x, v => ∃ x', v = .iface t x' ∧ VR ρ x x'
  | .agg cs, v => ∃ cs', v = .agg cs' ∧ VRs ρ cs.toList cs'.toList
  | .tuple cs, v => ∃ cs', v = .tuple cs' ∧ VRs ρ cs.toList cs'.toList
  | .bool b, v => v = .bool b
  | .int k n, v => v = .int k n
  | .float k n, v => v = .float k n
  | .complex k n m, v => v = .complex k n m
  | .string s, v => v = .string s
  | .pointer none, v => v = .pointer none
  | .slice none n c, v => n = 0 ∧ c = 0 ∧ v = .slice none 0 0
  | .map none, v => v = .map none
  | .chan none, v => v = .chan none
  | .nilFunc, v => v = .nilFunc
  | .nilIface, v => v = .nilIface
  | .chan (some n), v => anyR n v
  | .func _ _ _, _ => False
def VRs (ρ : Rho) : List Value → List Value → Prop
  | [], l => l = []
  | v :: vs, l => ∃ v' vs', l = v' :: vs' ∧ VR ρ v v' ∧ VRs ρ vs vs'
end
mutual
theorem VR.mono {ρ ρ' : Rho} (h : ρ.le ρ') : ∀ v v', VR ρ v v' → VR ρ' v v'
  | .pointer (some a), v', hv => by
    unfold VR at hv ⊢
    obtain ⟨b, x, h1, h2, h3⟩ := hv
    exact ⟨b, x, h1, h _ _ h2, h3⟩
  | .slice (some a) n c, v', hv => by
    unfold VR at hv ⊢
    rcases hv with hv | ⟨h1, b, x, c', h2, h3, h4⟩
    · exact .inl hv
    · exact .inr ⟨h1, b, x, c', h _ _ h2, h3, h4⟩
  | .map (some r), v', hv => by
    unfold VR at hv ⊢
    obtain ⟨b, x, h1, h2⟩ := hv
    exact ⟨b, x, h _ _ h1, h2⟩
  | .func (.func f) a c, v', hv => by
    unfold VR at hv ⊢
    obtain ⟨a', c', h1, h2, h3⟩ := hv
    exact ⟨a', c', h1, VRs.mono h a.toList a'.toList h2, VRs.mono h c.toList c'.toList h3⟩
  | .iface t x, v', hv => by
    unfold VR at hv ⊢
    obtain ⟨x', h1, h2⟩ := hv
    exact ⟨x', h1, VR.mono h x x' h2⟩
  | .agg cs, v', hv => by
    unfold VR at hv ⊢
    obtain ⟨x', h1, h2⟩ := hv
    exact ⟨x', h1, VRs.mono h cs.toList x'.toList h2⟩
  | .tuple cs, v', hv => by
    unfold VR at hv ⊢
    obtain ⟨x', h1, h2⟩ := hv
    exact ⟨x', h1, VRs.mono h cs.toList x'.toList h2⟩
  | .bool b, v', hv => by unfold VR at hv ⊢; exact hv
  | .int k n, v', hv => by unfold VR at hv ⊢; exact hv
  | .float k n, v', hv => by unfold VR at hv ⊢; exact hv
  | .complex k n m, v', hv => by unfold VR at hv ⊢; exact hv
  | .string s, v', hv => by unfold VR at hv ⊢; exact hv
  | .pointer none, v', hv => by unfold VR at hv ⊢; exact hv
  | .slice none n c, v', hv => by unfold VR at hv ⊢; exact hv
  | .map none, v', hv => by unfold VR at hv ⊢; exact hv
  | .chan none, v', hv => by unfold VR at hv ⊢; exact hv
  | .nilFunc, v', hv => by unfold VR at hv ⊢; exact hv
  | .nilIface, v', hv => by unfold VR at hv ⊢; exact hv
  | .chan (some _), v', hv => by unfold VR at hv ⊢; exact hv
  | .func (.method _) _ _, v', hv => by unfold VR at hv; exact hv.elim
  | .func (.methodOf _ _) _ _, v', hv => by unfold VR at hv; exact hv.elim
  | .func (.via _ _ _ _) _ _, v', hv => by unfold VR at hv; exact hv.elim
  | .func (.yield _) _ _, v', hv => by unfold VR at hv; exact hv.elim
theorem VRs.mono {ρ ρ' : Rho} (h : ρ.le ρ') : ∀ l l', VRs ρ l l' → VRs ρ' l l'
  | [], l', hl => by unfold VRs at hl ⊢; exact hl
  | v :: vs, l', hl => by
    unfold VRs at hl ⊢
    obtain ⟨v', vs', h1, h2, h3⟩ := hl
    exact ⟨v', vs', h1, VR.mono h v v' h2, VRs.mono h vs vs' h3⟩
end
mutual
theorem flat_self {ρ : Rho} : ∀ v, flat v = true → VR ρ v v
  | .pointer (some a), hv => by simp [flat] at hv
  | .slice (some a) n c, hv => by simp [flat] at hv
  | .map (some r), hv => by simp [flat] at hv
  | .func (.func f) a c, hv => by
    unfold VR
    simp only [flat, Bool.and_eq_true] at hv
    exact ⟨a, c, rfl, flats_self a.toList hv.1, flats_self c.toList hv.2⟩
  | .iface t x, hv => by
    unfold VR
    simp only [flat] at hv
    exact ⟨x, rfl, flat_self x hv⟩
  | .agg cs, hv => by
    unfold VR
    simp only [flat] at hv
    exact ⟨cs, rfl, flats_self cs.toList hv⟩
  | .tuple cs, hv => by
    unfold VR
    simp only [flat] at hv
    exact ⟨cs, rfl, flats_self cs.toList hv⟩
  | .bool b, hv => by unfold VR; rfl
  | .int k n, hv => by unfold VR; rfl
  | .float k n, hv => by unfold VR; rfl
  | .complex k n m, hv => by unfold VR; rfl
  | .string s, hv => by unfold VR; rfl
  | .pointer none, hv => by unfold VR; rfl
  | .slice none n c, hv => by
    simp only [flat, Option.isNone, Bool.and_eq_true, Bool.true_and] at hv
    have h1 := eq_beq hv.1
    have h2 := eq_beq hv.2
    subst h1 h2
    unfold VR; exact ⟨rfl, rfl, rfl⟩
  | .map none, hv => by unfold VR; rfl
  | .chan none, hv => by unfold VR; rfl
  | .nilFunc, hv => by unfold VR; rfl
  | .nilIface, hv => by unfold VR; rfl
  | .chan (some _), hv => by simp [flat] at hv
  | .func (.method _) _ _, hv => by simp [flat] at hv
  | .func (.methodOf _ _) _ _, hv => by simp [flat] at hv
  | .func (.via _ _ _ _) _ _, hv => by simp [flat] at hv
  | .func (.yield _) _ _, hv => by simp [flat] at hv
theorem flats_self {ρ : Rho} : ∀ l, flats l = true → VRs ρ l l
  | [], hl => by unfold VRs; rfl
  | v :: vs, hl => by
    simp only [flats, Bool.and_eq_true] at hl
    unfold VRs
    exact ⟨v, vs, rfl, flat_self v hl.1, flats_self vs hl.2⟩
end
mutual
theorem flat_same {ρ : Rho} : ∀ v v', flat v = true → VR ρ v v' → v' = v
  | .pointer (some a), v', hv, hr => by simp [flat] at hv
  | .slice (some a) n c, v', hv, hr => by simp [flat] at hv
  | .map (some r), v', hv, hr => by simp [flat] at hv
  | .func (.func f) a c, v', hv, hr => by
    simp only [flat, Bool.and_eq_true] at hv
    unfold VR at hr
    obtain ⟨a', c', rfl, h1, h2⟩ := hr
    rw [Array.toList_inj.1 (flats_same a.toList a'.toList hv.1 h1), Array.toList_inj.1 (flats_same c.toList c'.toList hv.2 h2)]
  | .iface t x, v', hv, hr => by
    simp only [flat] at hv
    unfold VR at hr
    obtain ⟨x', rfl, h1⟩ := hr
    rw [flat_same x x' hv h1]
  | .agg cs, v', hv, hr => by
    simp only [flat] at hv
    unfold VR at hr
    obtain ⟨x', rfl, h1⟩ := hr
    rw [Array.toList_inj.1 (flats_same cs.toList x'.toList hv h1)]
  | .tuple cs, v', hv, hr => by
    simp only [flat] at hv
    unfold VR at hr
    obtain ⟨x', rfl, h1⟩ := hr
    rw [Array.toList_inj.1 (flats_same cs.toList x'.toList hv h1)]
  | .bool b, v', hv, hr => by unfold VR at hr; exact hr
  | .int k n, v', hv, hr => by unfold VR at hr; exact hr
  | .float k n, v', hv, hr => by unfold VR at hr; exact hr
  | .complex k n m, v', hv, hr => by unfold VR at hr; exact hr
  | .string s, v', hv, hr => by unfold VR at hr; exact hr
  | .pointer none, v', hv, hr => by unfold VR at hr; exact hr
  | .slice none n c, v', hv, hr => by
    unfold VR at hr
    obtain ⟨rfl, rfl, rfl⟩ := hr
    rfl
  | .map none, v', hv, hr => by unfold VR at hr; exact hr
  | .chan none, v', hv, hr => by unfold VR at hr; exact hr
  | .nilFunc, v', hv, hr => by unfold VR at hr; exact hr
  | .nilIface, v', hv, hr => by unfold VR at hr; exact hr
  | .chan (some _), v', hv, hr => by simp [flat] at hv
  | .func (.method _) _ _, v', hv, hr => by simp [flat] at hv
  | .func (.methodOf _ _) _ _, v', hv, hr => by simp [flat] at hv
  | .func (.via _ _ _ _) _ _, v', hv, hr => by simp [flat] at hv
  | .func (.yield _) _ _, v', hv, hr => by simp [flat] at hv
theorem flats_same {ρ : Rho} : ∀ l l', flats l = true → VRs ρ l l' → l' = l
  | [], l', hl, hr => by unfold VRs at hr; exact hr
  | v :: vs, l', hl, hr => by
    simp only [flats, Bool.and_eq_true] at hl
    unfold VRs at hr
    obtain ⟨v', vs', rfl, h1, h2⟩ := hr
    rw [flat_same v v' hl.1 h1, flats_same vs vs' hl.2 h2]
end
theorem VRs.nil {ρ : Rho} : VRs ρ [] [] := by unfold VRs; rfl
theorem VRs.cons {ρ : Rho} {v v' : Value} {l l' : List Value} (h : VR ρ v v') (hl : VRs ρ l l') : VRs ρ (v :: l) (v' :: l') := by unfold VRs; exact ⟨v', l', rfl, h, hl⟩
theorem VRs.inv {ρ : Rho} {v : Value} {l m : List Value} (h : VRs ρ (v :: l) m) : ∃ v' l', m = v' :: l' ∧ VR ρ v v' ∧ VRs ρ l l' := by unfold VRs at h; exact h
theorem VRs.inv_nil {ρ : Rho} {m : List Value} (h : VRs ρ [] m) : m = [] := by unfold VRs at h; exact h
theorem VRs.length {ρ : Rho} : ∀ {l l' : List Value}, VRs ρ l l' → l'.length = l.length
  | [], l', h => by rw [h.inv_nil]
  | v :: l, l', h => by
    obtain ⟨v', m, rfl, _, h2⟩ := h.inv
    simp [VRs.length h2]
theorem VRs.get {ρ : Rho} : ∀ {l l' : List Value}, VRs ρ l l' → ∀ (i : Nat) (v : Value), l[i]? = some v → ∃ v', l'[i]? = some v' ∧ VR ρ v v'
  | [], l', h, i, v, e => by simp at e
  | x :: l, l', h, i, v, e => by
    obtain ⟨x', m, rfl, h1, h2⟩ := h.inv
    cases i with
    | zero =>
      obtain rfl : x = v := by simpa using e
      exact ⟨x', by simp, h1⟩
    | succ i => simpa using VRs.get h2 i v (by simpa using e)
theorem VRs.append {ρ : Rho} : ∀ {a a' b b' : List Value}, VRs ρ a a' → VRs ρ b b' → VRs ρ (a ++ b) (a' ++ b')
  | [], a', b, b', h, h' => by rw [h.inv_nil]; exact h'
  | x :: a, a', b, b', h, h' => by
    obtain ⟨x', m, rfl, h1, h2⟩ := h.inv
    exact VRs.cons h1 (VRs.append h2 h')
theorem VRs.take {ρ : Rho} : ∀ {a a' : List Value}, VRs ρ a a' → ∀ n, VRs ρ (a.take n) (a'.take n)
  | [], a', h, n => by rw [h.inv_nil]; simpa using VRs.nil
  | x :: a, a', h, n => by
    obtain ⟨x', m, rfl, h1, h2⟩ := h.inv
    cases n with
    | zero => simpa using VRs.nil
    | succ n => exact VRs.cons h1 (VRs.take h2 n)
theorem VRs.drop {ρ : Rho} : ∀ {a a' : List Value}, VRs ρ a a' → ∀ n, VRs ρ (a.drop n) (a'.drop n)
  | [], a', h, n => by rw [h.inv_nil]; simpa using VRs.nil
  | x :: a, a', h, n => by
    obtain ⟨x', m, rfl, h1, h2⟩ := h.inv
    cases n with
    | zero => exact VRs.cons h1 h2
    | succ n => exact VRs.drop h2 n
theorem VRs.splice {ρ : Rho} {a a' b b' : List Value} (h : VRs ρ a a') (hb : VRs ρ b b') (o : Nat) : VRs ρ (splice a o b) (splice a' o b') := by
  unfold Ae.splice
  rw [hb.length]
  exact ((h.take o).append hb).append (h.drop _)
theorem VR.scal {ρ : Rho} {v v' : Value} (h : VR ρ v v') (hs : scal v = true) : scal v' = true := by
  cases v with
  | pointer a => cases a <;> (unfold VR at h; first | (subst h; rfl) | (obtain ⟨_, _, _, _, rfl⟩ := h; rfl))
  | slice a n c =>
    cases a with
    | none => unfold VR at h; obtain ⟨_, _, rfl⟩ := h; rfl
    | some a =>
      unfold VR at h
      rcases h with ⟨_, _, _, _, _, rfl⟩ | ⟨_, _, _, _, _, _, _, rfl⟩ <;> rfl
  | map a => cases a <;> (unfold VR at h; first | (subst h; rfl) | (obtain ⟨_, _, _, rfl⟩ := h; rfl))
  | chan a => cases a <;> (unfold VR at h; first | (subst h; rfl) | exact h.1)
  | func f a c => cases f <;> (unfold VR at h; first | exact h.elim | (obtain ⟨_, _, rfl, _, _⟩ := h; rfl))
  | iface t x => unfold VR at h; obtain ⟨_, rfl, _⟩ := h; rfl
  | agg c => simp [Ae.scal] at hs
  | tuple c => simp [Ae.scal] at hs
  | _ => unfold VR at h; subst h; rfl
theorem VRs.scals {ρ : Rho} : ∀ {l l' : List Value}, VRs ρ l l' → l.all Ae.scal = true → l'.all Ae.scal = true
  | [], l', h, hs => by rw [h.inv_nil]; rfl
  | x :: l, l', h, hs => by
    obtain ⟨x', m, rfl, h1, h2⟩ := h.inv
    simp only [List.all_cons, Bool.and_eq_true] at hs ⊢
    exact ⟨h1.scal hs.1, VRs.scals h2 hs.2⟩
theorem VR.agg {ρ : Rho} {cs : Array Value} {v' : Value} (h : VR ρ (.agg cs) v') : ∃ cs', v' = .agg cs' ∧ VRs ρ cs.toList cs'.toList := by unfold VR at h; exact h
theorem VR.tuple {ρ : Rho} {cs : Array Value} {v' : Value} (h : VR ρ (.tuple cs) v') : ∃ cs', v' = .tuple cs' ∧ VRs ρ cs.toList cs'.toList := by unfold VR at h; exact h
theorem VR.mkAgg {ρ : Rho} {cs cs' : Array Value} (h : VRs ρ cs.toList cs'.toList) : VR ρ (.agg cs) (.agg cs') := by unfold VR; exact ⟨cs', rfl, h⟩
theorem VR.mkTuple {ρ : Rho} {cs cs' : Array Value} (h : VRs ρ cs.toList cs'.toList) : VR ρ (.tuple cs) (.tuple cs') := by unfold VR; exact ⟨cs', rfl, h⟩
theorem VR.mkPtr {ρ : Rho} {b o : Nat} {q : Nat × Nat} (h : ρ b = some q) : VR ρ (.pointer (some ⟨b, o, none⟩)) (.pointer (some ⟨q.1, o, none⟩)) := by unfold VR; exact ⟨q.1, q.2, rfl, h, rfl⟩
theorem VR.mkSlice {ρ : Rho} {b o n c c' : Nat} {q : Nat × Nat} (h : ρ b = some q) (hc : c ≤ c') (hx : c' ≤ c + q.2) : VR ρ (.slice (some ⟨b, o, none⟩) n c) (.slice (some ⟨q.1, o, none⟩) n c') := by unfold VR; exact .inr ⟨rfl, q.1, q.2, c', h, hc, hx, rfl⟩
theorem VR.mkMap {ρ : Rho} {b : Nat} {q : Nat × Nat} (h : ρ b = some q) : VR ρ (.map (some b)) (.map (some q.1)) := by unfold VR; exact ⟨q.1, q.2, h, rfl⟩
theorem VR.ptr {ρ : Rho} {b o : Nat} {v : Value} (h : VR ρ (.pointer (some ⟨b, o, none⟩)) v) : ∃ q, ρ b = some q ∧ v = .pointer (some ⟨q.1, o, none⟩) := by
  unfold VR at h
  obtain ⟨b', x, _, h1, h2⟩ := h
  exact ⟨(b', x), h1, h2⟩
theorem VR.slice {ρ : Rho} {b o n c : Nat} {v : Value} (h0 : ρ 1000000 = none) (hn : ρ b ≠ none) (h : VR ρ (.slice (some ⟨b, o, none⟩) n c) v) : ∃ q c', ρ b = some q ∧ c ≤ c' ∧ c' ≤ c + q.2 ∧ v = .slice (some ⟨q.1, o, none⟩) n c' := by
  unfold VR at h
  rcases h with ⟨h1, _⟩ | ⟨_, b', x, c', h1, h2, h3, h4⟩
  · cases h1; exact absurd h0 hn
  · exact ⟨(b', x), c', h1, h2, h3, h4⟩
theorem VR.map {ρ : Rho} {r : Nat} {v : Value} (h : VR ρ (.map (some r)) v) : ∃ q, ρ r = some q ∧ v = .map (some q.1) := by
  unfold VR at h
  obtain ⟨b', x, h1, h2⟩ := h
  exact ⟨(b', x), h1, h2⟩
theorem VR.int {ρ : Rho} {k : IntKind} {n : Int} {v : Value} (h : VR ρ (.int k n) v) : v = .int k n := by unfold VR at h; exact h
theorem VR.bool {ρ : Rho} {b : Bool} {v : Value} (h : VR ρ (.bool b) v) : v = .bool b := by unfold VR at h; exact h
theorem VR.string {ρ : Rho} {s : ByteArray} {v : Value} (h : VR ρ (.string s) v) : v = .string s := by unfold VR at h; exact h
theorem VR.func {ρ : Rho} {f : FuncId} {a c : Array Value} {v : Value} (h : VR ρ (.func (.func f) a c) v) : ∃ a' c', v = .func (.func f) a' c' ∧ VRs ρ a.toList a'.toList ∧ VRs ρ c.toList c'.toList := by unfold VR at h; exact h
theorem VR.iface {ρ : Rho} {t : TypeId} {x v : Value} (h : VR ρ (.iface t x) v) : ∃ x', v = .iface t x' ∧ VR ρ x x' := by unfold VR at h; exact h
theorem VR.undef {ρ : Rho} : VR ρ undef undef := VR.mkTuple VRs.nil
theorem VR.cells {ρ : Rho} {v v' : Value} (h : VR ρ v v') : VRs ρ v.cells.toList v'.cells.toList := by
  by_cases hs : ∃ cs, v = .agg cs
  · obtain ⟨cs, rfl⟩ := hs
    obtain ⟨cs', rfl, h1⟩ := h.agg
    exact h1
  · have e : v.cells = #[v] := by cases v <;> first | rfl | exact absurd ⟨_, rfl⟩ hs
    have e' : v'.cells = #[v'] := by
      cases v with
      | pointer a => cases a <;> (unfold VR at h; first | (subst h; rfl) | (obtain ⟨_, _, _, _, rfl⟩ := h; rfl))
      | slice a n c =>
        cases a with
        | none => unfold VR at h; obtain ⟨_, _, rfl⟩ := h; rfl
        | some a =>
          unfold VR at h
          rcases h with ⟨_, _, _, _, _, rfl⟩ | ⟨_, _, _, _, _, _, _, rfl⟩ <;> rfl
      | map a => cases a <;> (unfold VR at h; first | (subst h; rfl) | (obtain ⟨_, _, _, rfl⟩ := h; rfl))
      | chan a => cases a <;> (unfold VR at h; first | (subst h; rfl) | (have h := h.1; cases v' <;> first | rfl | cases h))
      | func f a c => cases f <;> (unfold VR at h; first | exact h.elim | (obtain ⟨_, _, rfl, _, _⟩ := h; rfl))
      | iface t x => unfold VR at h; obtain ⟨_, rfl, _⟩ := h; rfl
      | agg c => exact absurd ⟨_, rfl⟩ hs
      | tuple c => unfold VR at h; obtain ⟨_, rfl, _⟩ := h; rfl
      | _ => unfold VR at h; subst h; rfl
    rw [e, e']
    exact VRs.cons h VRs.nil
end Go.Proofs.YtfhnljmoilifnaaGreatDoor.Ae
end
section
namespace Go.Proofs.YtfhnljmoilifnaaGreatDoor.Ae
open Go
open Go.RowKit
set_option linter.unusedVariables false
set_option linter.unusedSimpArgs false
def entsR (ρ : Rho) : List MapEntry → List MapEntry → Prop
  | [], l => l = []
  | e :: es, l => ∃ e' es', l = e' :: es' ∧ flat e.key = true ∧ e'.key = e.key ∧ e'.born = e.born ∧ VR ρ e.val e'.val ∧ entsR ρ es es'
theorem entsR.mono {ρ ρ' : Rho} (h : ρ.le ρ') : ∀ l l', entsR ρ l l' → entsR ρ' l l'
  | [], l', hl => hl
  | e :: es, l', hl => by
    obtain ⟨e', es', h1, h2, h3, h4, h5, h6⟩ := hl
    exact ⟨e', es', h1, h2, h3, h4, VR.mono h _ _ h5, entsR.mono h es es' h6⟩
def OR (P : Program) (ρ : Rho) (w : World) (o : AObj) (b : Nat × Nat) : Prop := match o with
  | .dead => True
  | .cells c e => ∃ cs fz, w.heap[b.1]? = some (.cells cs e fz) ∧ VRs ρ c cs.toList ∧ ∀ i, i < cs.size → ¬ (fz.1 ≤ i ∧ i < fz.2)
  | .row c e => ∃ cs fz d1 d2, w.heap[b.1]? = some (.cells cs e fz) ∧ cs.toList = d1 ++ d2 ∧ VRs ρ c d1 ∧ (∀ i, i < cs.size → ¬ (fz.1 ≤ i ∧ i < fz.2)) ∧ ∃ n, sizeT P e = some n ∧ d2.length = b.2 * n
  | .map es ck => ∃ es', w.heap[b.1]? = some (.map es' ck) ∧ entsR ρ es es'.toList
  | .sit s pos => w.heap[b.1]? = some (.stringIter s pos)
theorem OR.move {P : Program} {ρ ρ' : Rho} (h : ρ.le ρ') {w w' : World} {o : AObj} {b : Nat × Nat} (hb : w'.heap[b.1]? = w.heap[b.1]?) (hr : OR P ρ w o b) : OR P ρ' w' o b := by
  cases o with
  | dead => trivial
  | cells c e =>
    obtain ⟨cs, fz, h1, h2, h3⟩ := hr
    exact ⟨cs, fz, hb.trans h1, VRs.mono h _ _ h2, h3⟩
  | row c e =>
    obtain ⟨cs, fz, d1, d2, h1, h2, h3, h4⟩ := hr
    exact ⟨cs, fz, d1, d2, hb.trans h1, h2, VRs.mono h _ _ h3, h4⟩
  | map es ck =>
    obtain ⟨es', h1, h2⟩ := hr
    exact ⟨es', hb.trans h1, entsR.mono h _ _ h2⟩
  | sit s pos => exact hb.trans hr
structure Rel (P : Program) (G : Nat) (w0 : World) (ρ : Rho) (hp : Hp) (w : World) : Prop where mk ::
  live : ∀ b b', ρ b = some b' → OR P ρ w (hp.get b) b'
  inj : ∀ b c (q r : Nat × Nat), ρ b = some q → ρ c = some r → q.1 = r.1 → hp.get b ≠ .dead → hp.get c ≠ .dead → b = c
  bnd : ∀ b b', ρ b = some b' → b < hp.n ∧ b'.1 < w.heap.size
  glob : ∀ g, g < G → ρ g = some (g, 0) ∧ g < w0.heap.size
  new : ∀ b b', G ≤ b → ρ b = some b' → w0.heap.size ≤ b'.1
  low : Below w0.heap.size w0 w
  top : hp.n ≤ 1000000
  gle : G ≤ hp.n
def Rho.put (ρ : Rho) (b : Nat) (b' : Nat × Nat) : Rho := fun i => if i = b then some b' else ρ i
theorem Rho.put_le {ρ : Rho} {b : Nat} (h : ρ b = none) (b' : Nat × Nat) : ρ.le (ρ.put b b') := fun i i' e => by
  unfold Rho.put
  rw [if_neg (fun x => by subst x; rw [h] at e; cases e)]
  exact e
theorem Rho.put_at (ρ : Rho) (b : Nat) (b' : Nat × Nat) : ρ.put b b' b = some b' := by unfold Rho.put; rw [if_pos rfl]
theorem Hp.get_put (hp : Hp) (b : Nat) (o : AObj) (c : Nat) (hb : b < 1000000) : (hp.put b o).get c = if b = c then o else hp.get c := by
  unfold Hp.get Hp.put
  rw [Tr.get_set o DH hp.h b c (by unfold DH; omega)]
  split <;> rfl
theorem Hp.new_eq {hp hp' : Hp} {o : AObj} {b : Nat} (h : hp.new o = some (b, hp')) : b = hp.n ∧ hp.n < 1000000 ∧ hp'.n = hp.n + 1 ∧ ∀ c, hp'.get c = if hp.n = c then o else hp.get c := by
  unfold Hp.new at h
  cases hc : Nat.blt hp.n 1000000 with
  | false => rw [hc, cond_false] at h; cases h
  | true =>
    rw [hc, cond_true] at h
    have hlt : hp.n < 1000000 := Nat.le_of_ble_eq_true hc
    cases h
    refine ⟨rfl, hlt, rfl, fun c => ?_⟩
    unfold Hp.get
    rw [Tr.get_set o DH hp.h hp.n c (by unfold DH; omega)]
    split <;> rfl
def Grow (hp hp' : Hp) (ρ ρ' : Rho) : Prop := ρ.le ρ' ∧ (∀ b, b < hp.n → ρ' b = ρ b) ∧ hp.n ≤ hp'.n
theorem Grow.refl (hp : Hp) (ρ : Rho) : Grow hp hp ρ ρ := ⟨Rho.le_refl ρ, fun _ _ => rfl, Nat.le_refl _⟩
theorem Grow.same {hp hp' : Hp} (h : hp.n ≤ hp'.n) (ρ : Rho) : Grow hp hp' ρ ρ := ⟨Rho.le_refl ρ, fun _ _ => rfl, h⟩
theorem Grow.trans {h1 h2 h3 : Hp} {a b c : Rho} (x : Grow h1 h2 a b) (y : Grow h2 h3 b c) : Grow h1 h3 a c := ⟨Rho.le_trans x.1 y.1, fun i hi => (y.2.1 i (Nat.lt_of_lt_of_le hi x.2.2)).trans (x.2.1 i hi), Nat.le_trans x.2.2 y.2.2⟩
theorem Rel.world {P : Program} {G : Nat} {w0 : World} {ρ : Rho} {hp : Hp} {w w' : World} (h : Rel P G w0 ρ hp w) (hb : Below w.heap.size w w') : Rel P G w0 ρ hp w' :=
  ⟨fun b b' e => OR.move (Rho.le_refl ρ) (hb.block _ (h.bnd b b' e).2) (h.live b b' e), h.inj, fun b b' e => ⟨(h.bnd b b' e).1, Nat.lt_of_lt_of_le (h.bnd b b' e).2 hb.size⟩, h.glob, h.new,
    h.low.trans (hb.mono h.low.size), h.top, h.gle⟩
theorem Rel.lay {P : Program} {G : Nat} {w0 : World} {ρ : Rho} {hp hp' : Hp} {w w' : World} {o : AObj} {b : Nat} {b' : Nat × Nat} (h : Rel P G w0 ρ hp w) (hn : hp.new o = some (b, hp')) (hb : Below w.heap.size w w') (hlt : b'.1 < w'.heap.size) (hge : w.heap.size ≤ b'.1)
    (ho : OR P (ρ.put b b') w' o b') : Grow hp hp' ρ (ρ.put b b') ∧ Rel P G w0 (ρ.put b b') hp' w' := by
  obtain ⟨rfl, hlt2, hn', hget⟩ := Hp.new_eq hn
  have hnone : ρ hp.n = none := by
    cases e : ρ hp.n with
    | none => rfl
    | some x => have := (h.bnd _ _ e).1; omega
  have hle := Rho.put_le hnone b'
  refine ⟨⟨hle, fun c hc => by unfold Rho.put; rw [if_neg (by omega)], by omega⟩, ⟨fun c c' e => ?_, fun c d c' d' e1 e2 e3 n1 n2 => ?_, fun c c' e => ?_, fun g hg => ⟨hle _ _ (h.glob g hg).1, (h.glob g hg).2⟩, fun c c' hc e => ?_, h.low.trans (hb.mono h.low.size), by omega, by have := h.gle; omega⟩⟩
  · rw [hget]
    by_cases hc : hp.n = c
    · subst hc
      rw [Rho.put_at] at e
      cases e
      rw [if_pos rfl]
      exact ho
    · rw [if_neg hc]
      unfold Rho.put at e
      rw [if_neg (Ne.symm hc)] at e
      exact OR.move hle (hb.block _ (h.bnd c c' e).2) (h.live c c' e)
  · rw [hget] at n1 n2
    unfold Rho.put at e1 e2
    by_cases hc : c = hp.n
    · by_cases hd : d = hp.n
      · rw [hc, hd]
      · rw [if_pos hc] at e1
        rw [if_neg hd] at e2
        cases e1
        have := (h.bnd _ _ e2).2
        omega
    · by_cases hd : d = hp.n
      · rw [if_neg hc] at e1
        rw [if_pos hd] at e2
        cases e2
        have := (h.bnd _ _ e1).2
        omega
      · rw [if_neg hc] at e1
        rw [if_neg hd] at e2
        rw [if_neg (Ne.symm hc)] at n1
        rw [if_neg (Ne.symm hd)] at n2
        exact h.inj c d c' d' e1 e2 e3 n1 n2
  · rw [hn']
    by_cases hc : c = hp.n
    · subst hc
      rw [Rho.put_at] at e
      cases e
      exact ⟨by omega, hlt⟩
    · unfold Rho.put at e
      rw [if_neg hc] at e
      have := h.bnd c c' e
      exact ⟨by omega, Nat.lt_of_lt_of_le this.2 hb.size⟩
  · by_cases hcn : c = hp.n
    · subst hcn
      rw [Rho.put_at] at e
      cases e
      exact Nat.le_trans h.low.size hge
    · unfold Rho.put at e
      rw [if_neg hcn] at e
      exact h.new c c' hc e
theorem Rel.fresh {P : Program} {G : Nat} {w0 : World} {ρ : Rho} {hp : Hp} {w : World} (h : Rel P G w0 ρ hp w) {b : Nat} (hb : hp.n ≤ b) : ρ b = none := by
  cases e : ρ b with
  | none => rfl
  | some x => have := (h.bnd _ _ e).1; omega
theorem Rel.ahead {P : Program} {G : Nat} {w0 : World} {ρ : Rho} {hp hp' : Hp} {w : World} {o : AObj} {b : Nat} (h : Rel P G w0 ρ hp w) (hn : hp.new o = some (b, hp')) : Rel P G w0 ρ hp' w := by
  obtain ⟨rfl, hlt2, hn', hget⟩ := Hp.new_eq hn
  have hg : ∀ c c', ρ c = some c' → hp'.get c = hp.get c := fun c c' e => by
    rw [hget, if_neg (by have := (h.bnd _ _ e).1; omega)]
  exact ⟨fun c c' e => by rw [hg c c' e]; exact h.live c c' e, fun c d q r e1 e2 e3 n1 n2 => h.inj c d q r e1 e2 e3 (by rw [← hg c q e1]; exact n1) (by rw [← hg d r e2]; exact n2),
    fun c c' e => ⟨by have := (h.bnd _ _ e).1; omega, (h.bnd _ _ e).2⟩, h.glob, h.new, h.low, by omega, by have := h.gle; omega⟩
structure Born (P : Program) (ρ : Rho) (w w1 : World) (ob : AObj) (x : Nat) (mk : Nat → Value) (v' : Value) : Prop where mk ::
  low : Below w.heap.size w w1
  lt : w.heap.size < w1.heap.size
  ob : ∀ ρ', ρ.le ρ' → OR P ρ' w1 ob (w.heap.size, x)
  val : ∀ ρ' b, ρ' b = some (w.heap.size, x) → VR ρ' (mk b) v'
theorem Born.lay {P : Program} {G : Nat} {w0 : World} {ρ : Rho} {hp hp' : Hp} {w w1 : World} {ob : AObj} {x b : Nat} {mk : Nat → Value} {v' : Value} (hb : Born P ρ w w1 ob x mk v') (h : Rel P G w0 ρ hp w) (hn : hp.new ob = some (b, hp')) :
    Grow hp hp' ρ (ρ.put b (w.heap.size, x)) ∧ Rel P G w0 (ρ.put b (w.heap.size, x)) hp' w1 ∧ VR (ρ.put b (w.heap.size, x)) (mk b) v' := by
  have hbn := (Hp.new_eq hn).1
  obtain ⟨h1, h2⟩ := h.lay (b' := (w.heap.size, x)) hn hb.low hb.lt (Nat.le_refl _) (hb.ob _ (Rho.put_le (h.fresh (by omega)) _))
  exact ⟨h1, h2, hb.val _ _ (Rho.put_at _ _ _)⟩
theorem Born.late {P : Program} {G : Nat} {w0 : World} {ρ : Rho} {hp : Hp} {w w1 : World} {ob : AObj} {x b : Nat} {mk : Nat → Value} {v' : Value} (hb : Born P ρ w w1 ob x mk v') (h : Rel P G w0 ρ hp w) (hno : ρ b = none) (hbn : b < hp.n) (hG : G ≤ b) (hob : hp.get b = ob) :
    ρ.le (ρ.put b (w.heap.size, x)) ∧ Rel P G w0 (ρ.put b (w.heap.size, x)) hp w1 ∧ VR (ρ.put b (w.heap.size, x)) (mk b) v' := by
  have hle := Rho.put_le hno (w.heap.size, x)
  have hat : ∀ d r, ρ.put b (w.heap.size, x) d = some r → (d = b ∧ r = (w.heap.size, x)) ∨ (d ≠ b ∧ ρ d = some r) := by
    intro d r e
    unfold Rho.put at e
    by_cases hd : d = b
    · rw [if_pos hd] at e; cases e; exact .inl ⟨hd, rfl⟩
    · rw [if_neg hd] at e; exact .inr ⟨hd, e⟩
  refine ⟨hle, ⟨fun d r e => ?_, fun d1 d2 r1 r2 e1 e2 e3 n1 n2 => ?_, fun d r e => ?_, fun g hg => ⟨hle _ _ (h.glob g hg).1, (h.glob g hg).2⟩, fun d r hd e => ?_, h.low.trans (hb.low.mono h.low.size), h.top, h.gle⟩, hb.val _ _ (Rho.put_at _ _ _)⟩
  · rcases hat d r e with ⟨rfl, rfl⟩ | ⟨hd, e⟩
    · rw [hob]; exact hb.ob _ hle
    · exact OR.move hle (hb.low.block _ (h.bnd d r e).2) (h.live d r e)
  · rcases hat d1 r1 e1 with ⟨f1, g1⟩ | ⟨hd1, f1⟩
    · rcases hat d2 r2 e2 with ⟨f2, g2⟩ | ⟨hd2, f2⟩
      · rw [f1, f2]
      · have := (h.bnd _ _ f2).2; rw [g1] at e3; dsimp only at e3; omega
    · rcases hat d2 r2 e2 with ⟨f2, g2⟩ | ⟨hd2, f2⟩
      · have := (h.bnd _ _ f1).2; rw [g2] at e3; dsimp only at e3; omega
      · exact h.inj d1 d2 r1 r2 f1 f2 e3 n1 n2
  · rcases hat d r e with ⟨rfl, rfl⟩ | ⟨hd, e⟩
    · exact ⟨hbn, hb.lt⟩
    · exact ⟨(h.bnd _ _ e).1, Nat.lt_of_lt_of_le (h.bnd _ _ e).2 hb.low.size⟩
  · rcases hat d r e with ⟨rfl, rfl⟩ | ⟨hdd, e⟩
    · exact h.low.size
    · exact h.new d r hd e
theorem Rel.turn {P : Program} {G : Nat} {w0 : World} {ρ : Rho} {hp : Hp} {w w' : World} {o : AObj} {b : Nat} {b' : Nat × Nat} (h : Rel P G w0 ρ hp w) (hr : ρ b = some b') (hnd : hp.get b ≠ .dead) (hG : G ≤ b) (hsz : w'.heap.size = w.heap.size)
    (ho' : w'.os = w.os) (ht' : w'.tape = w.tape) (hu' : w'.output = w.output) (hoth : ∀ k, k ≠ b'.1 → w'.heap[k]? = w.heap[k]?) (ho : OR P ρ w' o b') (hod : o ≠ .dead) : Rel P G w0 ρ (hp.put b o) w' := by
  have hbn : b < 1000000 := by have := (h.bnd _ _ hr).1; have := h.top; omega
  refine ⟨fun c c' e => ?_, fun c d c' d' e1 e2 e3 n1 n2 => ?_, fun c c' e => ?_, h.glob, h.new, ?_, h.top, h.gle⟩
  · rw [Hp.get_put _ _ _ _ hbn]
    by_cases hc : b = c
    · subst hc
      rw [hr] at e
      cases e
      rw [if_pos rfl]
      exact ho
    · rw [if_neg hc]
      by_cases hd : hp.get c = .dead
      · rw [hd]; trivial
      · exact OR.move (Rho.le_refl ρ) (hoth c'.1 (fun x => hc (h.inj b c b' c' hr e x.symm hnd hd))) (h.live c c' e)
  · rw [Hp.get_put _ _ _ _ hbn] at n1 n2
    refine h.inj c d c' d' e1 e2 e3 ?_ ?_
    · by_cases hc : b = c
      · rw [← hc]; exact hnd
      · rwa [if_neg hc] at n1
    · by_cases hc : b = d
      · rw [← hc]; exact hnd
      · rwa [if_neg hc] at n2
  · rw [hsz]; exact h.bnd c c' e
  · exact ⟨ho'.trans h.low.os, ht'.trans h.low.tape, hu'.trans h.low.output, by rw [hsz]; exact h.low.size, fun k hk => (hoth k (fun e => by have := h.new b b' hG hr; omega)).trans (h.low.block k hk)⟩
theorem Rel.drop {P : Program} {G : Nat} {w0 : World} {ρ : Rho} {hp : Hp} {w : World} {b : Nat} (h : Rel P G w0 ρ hp w) (hb : b < 1000000) : Rel P G w0 ρ (hp.put b .dead) w := by
  refine ⟨fun c c' e => ?_, fun c d c' d' e1 e2 e3 n1 n2 => ?_, h.bnd, h.glob, h.new, h.low, h.top, h.gle⟩
  · rw [Hp.get_put _ _ _ _ hb]
    split
    · trivial
    · exact h.live c c' e
  · rw [Hp.get_put _ _ _ _ hb] at n1 n2
    refine h.inj c d c' d' e1 e2 e3 ?_ ?_
    · intro x; split at n1
      · exact n1 rfl
      · exact n1 x
    · intro x; split at n2
      · exact n2 rfl
      · exact n2 x
theorem OR.cellsOf {P : Program} {ρ : Rho} {w : World} {o : AObj} {b : Nat × Nat} {c : List Value} {e : TypeId} (h : OR P ρ w o b) (hc : cellsOf o = some (c, e)) :
    ∃ cs fz d1 d2, w.heap[b.1]? = some (.cells cs e fz) ∧ cs.toList = d1 ++ d2 ∧ VRs ρ c d1 ∧ ∀ i, i < cs.size → ¬ (fz.1 ≤ i ∧ i < fz.2) := by
  cases o with
  | cells c' e' =>
    cases hc
    obtain ⟨cs, fz, h1, h2, h3⟩ := h
    exact ⟨cs, fz, cs.toList, [], h1, by simp, h2, h3⟩
  | row c' e' =>
    cases hc
    obtain ⟨cs, fz, d1, d2, h1, h2, h3, h4, _⟩ := h
    exact ⟨cs, fz, d1, d2, h1, h2, h3, h4⟩
  | _ => cases hc
theorem cell_of {w : World} {b : Nat} {cs : Array Value} {e : TypeId} {fz : Nat × Nat} (h : w.heap[b]? = some (.cells cs e fz)) (i : Nat) : w.cell? ⟨b, i, none⟩ = cs[i]? := by
  unfold World.cell?
  simp [h]
theorem frozen_of {w : World} {b : Nat} {cs : Array Value} {e : TypeId} {fz : Nat × Nat} (h : w.heap[b]? = some (.cells cs e fz)) (i : Nat) (hi : ¬ (fz.1 ≤ i ∧ i < fz.2)) : w.frozen? ⟨b, i, none⟩ = false := by
  unfold World.frozen?
  simp [h]
  omega
theorem setCells_heap (b : Nat) : ∀ (vs : List Value) (o : Nat) (w : World) (cs : Array Value) (e : TypeId) (fz : Nat × Nat), w.heap[b]? = some (.cells cs e fz) → o + vs.length ≤ cs.size →
    (w.setCells b o vs).heap[b]? = some (.cells (splice cs.toList o vs).toArray e fz)
  | [], o, w, cs, e, fz, h, hl => by
    simp only [World.setCells, h]
    simp [splice]
  | v :: r, o, w, cs, e, fz, h, hl => by
    simp only [World.setCells]
    have h' : (w.setCell ⟨b, o, none⟩ v).heap[b]? = some (.cells (cs.setIfInBounds o v) e fz) := by
      unfold World.setCell
      simp [Array.getElem?_modify, h]
    rw [setCells_heap b r (o + 1) _ _ e fz h' (by simp at hl ⊢; omega)]
    congr 2
    simp only [List.length_cons] at hl
    have ho : o < cs.toList.length := by simp; omega
    simp only [Array.toList_setIfInBounds]
    unfold splice
    simp only [List.length_cons]
    rw [List.take_set, List.drop_set, if_pos (by omega)]
    rw [show o + (r.length + 1) = o + 1 + r.length by omega]
    congr 1
    have hm : min o cs.size = o := by simp at ho; omega
    rw [List.take_succ_eq_append_getElem ho, List.set_append_right]
    · simp [hm]
    · simp [hm]
theorem setCells_other (b : Nat) : ∀ (vs : List Value) (o : Nat) (w : World) (k : Nat), k ≠ b → (w.setCells b o vs).heap[k]? = w.heap[k]?
  | [], o, w, k, h => rfl
  | v :: r, o, w, k, h => by
    simp only [World.setCells]
    rw [setCells_other b r (o + 1) _ k h]
    exact Below.heap_setCell w ⟨b, o, none⟩ v k h
theorem setCells_size (b : Nat) : ∀ (vs : List Value) (o : Nat) (w : World), (w.setCells b o vs).heap.size = w.heap.size ∧ (w.setCells b o vs).os = w.os ∧ (w.setCells b o vs).tape = w.tape ∧ (w.setCells b o vs).output = w.output
  | [], o, w => ⟨rfl, rfl, rfl, rfl⟩
  | v :: r, o, w => by
    simp only [World.setCells]
    obtain ⟨h1, h2, h3, h4⟩ := setCells_size b r (o + 1) (w.setCell ⟨b, o, none⟩ v)
    refine ⟨h1.trans ?_, h2, h3, h4⟩
    unfold World.setCell
    simp
theorem oneCell_of {v : Value} (h : scal v = true) : v.oneCell' = true := by cases v <;> first | rfl | cases h
end Go.Proofs.YtfhnljmoilifnaaGreatDoor.Ae
end
section
namespace Go.Proofs.YtfhnljmoilifnaaGreatDoor.Ae
open Go
open Go.RowKit
set_option linter.unusedVariables false
set_option linter.unusedSimpArgs false
theorem pureRun_run {α : Type} {P : Program} (s : Sem α) (x : α) (w : World) (h : pureRun P s = some x) : s.run P w = .ok x w := by
  induction s with
  | pure a => simp only [pureRun, Option.some.injEq] at h; subst h; rfl
  | program k ih => simp only [pureRun] at h; exact ih P h
  | mark m k ih => simp only [pureRun] at h; exact ih h
  | _ => simp [pureRun] at h
structure TR (ρ : Rho) (s : St) (a : Act) : Prop where mk ::
  sz : a.tmps.size = s.sz
  le : s.sz ≤ 1000
  val : ∀ i, VR ρ ((s.t.get DT i).getD undef) (a.tmps.getD i undef)
  df : a.defers = []
theorem TR.mono {ρ ρ' : Rho} (h : ρ.le ρ') {s : St} {a : Act} (hT : TR ρ s a) : TR ρ' s a := ⟨hT.sz, hT.le, fun i => VR.mono h _ _ (hT.val i), hT.df⟩
theorem TR.put {ρ : Rho} {s s' : St} {a : Act} {d : Option Tmp} {v v' : Value} {hp : Hp} (hT : TR ρ s a) (h : s.to d v hp = some s') (hv : VR ρ v v') : TR ρ s' (a.put d v') ∧ s'.hp = hp := by
  rw [St.to_eq] at h
  cases d with
  | none =>
    cases h
    exact ⟨⟨hT.sz, hT.le, hT.val, hT.df⟩, rfl⟩
  | some i =>
    dsimp only at h
    cases hc : Nat.blt i s.sz with
    | false => rw [hc, cond_false] at h; cases h
    | true =>
      rw [hc, cond_true] at h
      have hlt := @Nat.le_of_ble_eq_true (i + 1) s.sz hc
      cases h
      refine ⟨⟨by simp [Act.put, hT.sz], hT.le, fun j => ?_, by simp [Act.put, hT.df]⟩, rfl⟩
      simp only [Act.put]
      rw [Tr.get_set v DT s.t i j (by have := hT.le; unfold DT; omega)]
      by_cases e : i = j
      · subst e
        have : i < a.tmps.size := by rw [hT.sz]; exact hlt
        simp [this]
        exact hv
      · rw [if_neg e]
        have := hT.val j
        simp only [Array.getD_eq_getD_getElem?] at this ⊢
        rw [Array.getElem?_setIfInBounds_ne e]
        exact this
theorem opd_ok {P : Program} {G : Nat} {w0 w : World} {ρ : Rho} {s : St} {hp : Hp} {a : Act} (hR : Rel P G w0 ρ hp w) (hT : TR ρ s a) {x : Operand} {v : Value} (h : opd G s.t x = some v) : VR ρ v (a.eval x) ∧ ev s.t x = v := by
  cases x with
  | tmp i =>
    simp only [opd, Option.some.injEq] at h
    subst h
    exact ⟨hT.val i, rfl⟩
  | const c =>
    simp only [opd] at h
    cases hc : flat c with
    | false => rw [hc, cond_false] at h; cases h
    | true =>
      rw [hc, cond_true] at h
      cases h
      exact ⟨flat_self _ hc, rfl⟩
  | global g =>
    simp only [opd] at h
    cases hc : Nat.blt g G with
    | false => rw [hc, cond_false] at h; cases h
    | true =>
      rw [hc, cond_true] at h
      cases h
      exact ⟨VR.mkPtr (hR.glob g (Nat.le_of_ble_eq_true hc)).1, rfl⟩
  | func f =>
    simp only [opd, Option.some.injEq] at h
    subst h
    exact ⟨by unfold VR; exact ⟨#[], #[], rfl, VRs.nil, VRs.nil⟩, rfl⟩
theorem opds_ok {P : Program} {G : Nat} {w0 w : World} {ρ : Rho} {s : St} {hp : Hp} {a : Act} (hR : Rel P G w0 ρ hp w) (hT : TR ρ s a) : ∀ {xs : List Operand} {vs : List Value}, opds G s.t xs = some vs → VRs ρ vs (xs.map a.eval)
  | [], vs, h => by simp only [opds, Option.some.injEq] at h; subst h; exact VRs.nil
  | x :: xs, vs, h => by
    simp only [opds] at h
    cases h1 : opd G s.t x with
    | none => rw [h1] at h; cases h
    | some v =>
      rw [h1] at h
      dsimp only at h
      cases h2 : opds G s.t xs with
      | none => rw [h2] at h; cases h
      | some us =>
        rw [h2] at h
        cases h
        exact VRs.cons (opd_ok hR hT h1).1 (opds_ok hR hT h2)
theorem ev_flat {ρ : Rho} {s : St} {a : Act} (hT : TR ρ s a) {x : Operand} (h : flat (ev s.t x) = true) : a.eval x = ev s.t x := by
  cases x with
  | tmp i => exact flat_same _ _ h (hT.val i)
  | const c => rfl
  | global g => simp [ev, flat] at h
  | func f => rfl
theorem ev_int {ρ : Rho} {s : St} {a : Act} (hT : TR ρ s a) {x : Operand} {k : IntKind} {n : Int} (h : ev s.t x = .int k n) : a.eval x = .int k n := (ev_flat hT (by rw [h]; rfl)).trans h
theorem part_ok {P : Program} {ρ : Rho} {t : TypeId} {cs : List Value} {off : Nat} {v : Value} (h : partA P t cs off = some v) {cs' : Array Value} (hc : VRs ρ cs cs'.toList) (w : World) :
    ∃ v', (part t cs' off).run P w = .ok v' w ∧ VR ρ v v' := by
  unfold partA isAggT sizeT at h
  unfold part isAgg sizeOf typeInfo underlying
  cases hu : P.underlying t with
  | none => simp [hu] at h
  | some d =>
    cases hi : P.info? t with
    | none =>
      simp only [hu, hi] at h
      cases d <;> simp at h <;> (obtain ⟨v', h1, h2⟩ := hc.get _ _ h; exact ⟨v', by
        simp only [Sem.run_bind, Sem.run_pure, Result.andThen_ok, run_program, hu, hi]
        simp [← Array.getElem?_toList, h1], h2⟩)
    | some i =>
      simp only [hu, hi] at h
      cases d <;> simp at h
      case struct fs =>
        cases hb : Nat.ble (off + i.size) cs.length with
        | false => simp [hb] at h
        | true =>
          simp only [hb, cond_true, Option.some.injEq] at h
          subst h
          refine ⟨.agg (cs'.extract off (off + i.size)), ?_, VR.mkAgg ?_⟩
          · simp only [Sem.run_bind, Sem.run_pure, Result.andThen_ok, run_program, hu, hi, if_true]
          · simpa [Array.toList_extract, List.extract_eq_take_drop] using (hc.drop off).take i.size
      case array n e =>
        cases hb : Nat.ble (off + i.size) cs.length with
        | false => simp [hb] at h
        | true =>
          simp only [hb, cond_true, Option.some.injEq] at h
          subst h
          refine ⟨.agg (cs'.extract off (off + i.size)), ?_, VR.mkAgg ?_⟩
          · simp only [Sem.run_bind, Sem.run_pure, Result.andThen_ok, run_program, hu, hi, if_true]
          · simpa [Array.toList_extract, List.extract_eq_take_drop] using (hc.drop off).take i.size
      all_goals
        obtain ⟨v', h1, h2⟩ := hc.get _ _ h
        exact ⟨v', by
          simp only [Sem.run_bind, Sem.run_pure, Result.andThen_ok, run_program, hu, hi]
          simp [← Array.getElem?_toList, h1], h2⟩
end Go.Proofs.YtfhnljmoilifnaaGreatDoor.Ae
end
section
namespace Go.Proofs.YtfhnljmoilifnaaGreatDoor.Ae
open Go
open Go.RowKit
set_option linter.unusedVariables false
set_option linter.unusedSimpArgs false
section
variable {P : Program} {ρ : Rho}
theorem und_run {t : TypeId} {d : TypeDesc} (h : P.underlying t = some d) (w : World) : (underlying t).run P w = .ok d w := by
  unfold underlying
  simp [h]
theorem size_run {t : TypeId} {n : Nat} (h : sizeT P t = some n) (w : World) : (sizeOf t).run P w = .ok n w := by
  unfold sizeT at h
  unfold sizeOf typeInfo
  cases hi : P.info? t with
  | none => simp [hi] at h
  | some i =>
    simp [hi] at h
    simp [hi, h]
theorem add_mid (b o n : Nat) : (⟨b, o, none⟩ : Addr).add n = ⟨b, o + n, none⟩ := Addr.add_mid b o n
theorem indexAddr_ok {G : Nat} {w0 w : World} {hp : Hp} (hR : Rel P G w0 ρ hp w) {t : TypeId} {x ix v x' : Value} (h : indexAddrA P t x ix = some v) (hx : VR ρ x x') : ∃ v', (Instr.indexAt t x' ix).run P w = .ok v' w ∧ VR ρ v v' := by
  unfold indexAddrA at h
  split at h
  · rename_i e b o len cp k i hu
    cases hs : sizeT P e with
    | none => rw [hs] at h; cases h
    | some n =>
      rw [hs] at h
      dsimp only at h
      cases hb : decide (0 ≤ i) && decide (i < (len : Int)) with
      | false => rw [hb, cond_false] at h; cases h
      | true =>
        rw [hb, cond_true] at h
        cases h
        simp only [Bool.and_eq_true, decide_eq_true_eq] at hb
        unfold VR at hx
        rcases hx with ⟨h1, h2, _⟩ | ⟨_, b', x, c', h1, h2, _, rfl⟩
        · subst h2; omega
        · refine ⟨.pointer (some ⟨b', o + i.toNat * n, none⟩), ?_, VR.mkPtr (q := (b', x)) h1⟩
          unfold Instr.indexAt
          simp only [asIntOf, Sem.run_bind, Sem.run_pure, Result.andThen_ok, und_run hu]
          simp only [hb.1, hb.2, and_self, if_true, Sem.run_bind, size_run hs, Result.andThen_ok, Sem.run_pure, add_mid]
  · rename_i len e b o k i hu
    cases hs : sizeT P e with
    | none => rw [hs] at h; cases h
    | some n =>
      rw [hs] at h
      dsimp only at h
      cases hb : decide (0 ≤ i) && decide (i < (len : Int)) with
      | false => rw [hb, cond_false] at h; cases h
      | true =>
        rw [hb, cond_true] at h
        cases h
        simp only [Bool.and_eq_true, decide_eq_true_eq] at hb
        obtain ⟨⟨b', x⟩, h1, rfl⟩ := hx.ptr
        refine ⟨.pointer (some ⟨b', o + i.toNat * n, none⟩), ?_, VR.mkPtr h1⟩
        unfold Instr.indexAt
        simp only [asIntOf, Sem.run_bind, Sem.run_pure, Result.andThen_ok, und_run hu, Instr.sureAddr]
        simp only [hb.1, hb.2, and_self, if_true, Sem.run_bind, size_run hs, Result.andThen_ok, Sem.run_pure, add_mid, Instr.sureAddr]
  · cases h
theorem fieldAddr_ok {G : Nat} {w0 w : World} {hp : Hp} (hR : Rel P G w0 ρ hp w) {t : TypeId} {x v x' : Value} {f : Nat} (h : fieldAddrA P t x f = some v) (hx : VR ρ x x') : ∃ v', (Instr.fieldAt t x' f).run P w = .ok v' w ∧ VR ρ v v' := by
  unfold fieldAddrA at h
  split at h
  · rename_i fs b o hu
    cases hf : fs[f]? with
    | none => rw [hf] at h; cases h
    | some fd =>
      rw [hf] at h
      dsimp only at h
      cases hs : sizeT P fd.type with
      | none => rw [hs] at h; cases h
      | some n =>
        rw [hs] at h
        cases n with
        | zero => cases h
        | succ n =>
          cases h
          obtain ⟨⟨b', x⟩, h1, rfl⟩ := hx.ptr
          refine ⟨.pointer (some ⟨b', o + fd.offset, none⟩), ?_, VR.mkPtr h1⟩
          unfold Instr.fieldAt fieldPlace
          simp only [Sem.run_bind, und_run hu, Result.andThen_ok, hf, Instr.sureAddr, Sem.run_pure, size_run hs, add_mid]
          simp [size_run hs, add_mid]
  · cases h
theorem field_ok {t : TypeId} {x v x' : Value} {f : Nat} (h : fieldA P t x f = some v) (hx : VR ρ x x') (w : World) : ∃ v', (Instr.field t x' f).run P w = .ok v' w ∧ VR ρ v v' := by
  unfold fieldA at h
  split at h
  · rename_i fs cs hu
    cases hf : fs[f]? with
    | none => rw [hf] at h; cases h
    | some fd =>
      rw [hf] at h
      dsimp only at h
      obtain ⟨cs', rfl, hc⟩ := hx.agg
      obtain ⟨v', h1, h2⟩ := part_ok h hc w
      refine ⟨v', ?_, h2⟩
      unfold Instr.field
      simp only [Sem.run_bind, und_run hu, Result.andThen_ok, hf, asAgg, Sem.run_pure, h1]
  · cases h
theorem index_ok {t : TypeId} {x ix v x' : Value} (h : indexA P t x ix = some v) (hx : VR ρ x x') (w : World) : ∃ v', (Instr.index t x' ix).run P w = .ok v' w ∧ VR ρ v v' := by
  unfold indexA at h
  split at h
  · rename_i len e cs k i hu
    cases hs : sizeT P e with
    | none => rw [hs] at h; cases h
    | some n =>
      rw [hs] at h
      dsimp only at h
      cases hb : decide (0 ≤ i) && decide (i < (len : Int)) with
      | false => rw [hb, cond_false] at h; cases h
      | true =>
        rw [hb, cond_true] at h
        simp only [Bool.and_eq_true, decide_eq_true_eq] at hb
        obtain ⟨cs', rfl, hc⟩ := hx.agg
        obtain ⟨v', h1, h2⟩ := part_ok h hc w
        refine ⟨v', ?_, h2⟩
        unfold Instr.index
        simp only [asIntOf, Sem.run_bind, Sem.run_pure, Result.andThen_ok, und_run hu, hb.1, hb.2, and_self, if_true, size_run hs, h1]
  · cases h
theorem bound_run {code : BoundsCode} {v : Option Value} {d n y : Nat} (h : boundA v d = some n) (hn : n ≤ y) (w : World) (k : Value) (hv : v = some k) : (Instr.sliceBound k y code).run P w = .ok n w := by
  subst hv
  cases k <;> simp [boundA] at h
  rename_i ik i
  cases hb : decide (0 ≤ i) with
  | false => simp [hb] at h
  | true =>
    simp only [hb, cond_true, Option.some.injEq] at h
    simp only [decide_eq_true_eq] at hb
    subst h
    unfold Instr.sliceBound
    have : i ≤ (y : Int) := by omega
    simp only [asIntOf, Sem.run_bind, Sem.run_pure, Result.andThen_ok, hb, this, and_self, if_true]
theorem bounds_run {q : Bool} {lo hi mx : Option Value} {len cap cap' l h m : Nat} (hl : boundA lo 0 = some l) (hh : boundA hi len = some h) (hm : boundA mx cap = some m) (h1 : l ≤ h) (h2 : h ≤ m) (h3 : m ≤ cap) (h4 : cap ≤ cap')
    (h5 : mx.isNone = true ∨ hi.isSome = true) (w : World) : (Instr.sliceBounds q len cap' lo hi mx).run P w = .ok (l, h, if mx.isNone then cap' else m) w := by
  unfold Instr.sliceBounds
  cases mx with
  | none =>
    simp only [boundA, Option.some.injEq] at hm
    subst hm
    cases hi with
    | none =>
      simp only [boundA, Option.some.injEq] at hh
      subst hh
      cases lo with
      | none =>
        simp only [boundA, Option.some.injEq] at hl
        subst hl
        simp
      | some kl =>
        simp only [Sem.run_bind, Sem.run_pure, Result.andThen_ok, bound_run hl h1 w kl rfl]
        simp
    | some kh =>
      cases lo with
      | none =>
        simp only [boundA, Option.some.injEq] at hl
        subst hl
        simp only [Sem.run_bind, Sem.run_pure, Result.andThen_ok, bound_run hh (Nat.le_trans h2 h4) w kh rfl]
        simp
      | some kl =>
        simp only [Sem.run_bind, Sem.run_pure, Result.andThen_ok, bound_run hh (Nat.le_trans h2 h4) w kh rfl, bound_run hl h1 w kl rfl]
        simp
  | some km =>
    cases hi with
    | none => simp at h5
    | some kh =>
      cases lo with
      | none =>
        simp only [boundA, Option.some.injEq] at hl
        subst hl
        simp only [Sem.run_bind, Sem.run_pure, Result.andThen_ok, bound_run hm (Nat.le_trans h3 h4) w km rfl, bound_run hh h2 w kh rfl]
        simp
      | some kl =>
        simp only [Sem.run_bind, Sem.run_pure, Result.andThen_ok, bound_run hm (Nat.le_trans h3 h4) w km rfl, bound_run hh h2 w kh rfl, bound_run hl h1 w kl rfl]
        simp
theorem slice_ok {G : Nat} {w0 w : World} {hp : Hp} (hR : Rel P G w0 ρ hp w) {t : TypeId} {x v x' : Value} {lo hi mx : Option Value} (h : sliceA P t x lo hi mx = some v) (hx : VR ρ x x') : ∃ v', (Instr.sliceAt t x' lo hi mx).run P w = .ok v' w ∧ VR ρ v v' := by
  unfold sliceA at h
  split at h
  · rename_i e b o len cp hu
    cases hs : sizeT P e with
    | none => simp [hs] at h
    | some n =>
    cases hl : boundA lo 0 with
    | none => simp [hs, hl] at h
    | some l =>
    cases hh : boundA hi len with
    | none => simp [hs, hl, hh] at h
    | some hi' =>
    cases hm : boundA mx cp with
    | none => simp [hs, hl, hh, hm] at h
    | some m =>
      simp only [hs, hl, hh, hm] at h
      cases hb : (Nat.ble l hi' && Nat.ble hi' m && Nat.ble m cp && (mx.isNone || hi.isSome)) with
      | false => rw [hb, cond_false] at h; cases h
      | true =>
        rw [hb, cond_true] at h
        simp only [Bool.and_eq_true, Bool.or_eq_true, Nat.ble_eq] at hb
        obtain ⟨⟨⟨g1, g2⟩, g3⟩, g4⟩ := hb
        unfold VR at hx
        rcases hx with ⟨q1, q2, q3, a', c', rfl⟩ | ⟨_, b', xt, c', q1, q2, q5, rfl⟩
        · 
          subst q2 q3
          have e1 : l = 0 := by omega
          have e2 : hi' = 0 := by omega
          have e3 : m = 0 := by omega
          subst e1 e2 e3
          cases q1
          have hv : v = .slice (some ⟨1000000, 0, none⟩) 0 0 := by
            simp at h
            exact h.symm
          subst hv
          have hbr := bounds_run (P := P) (q := true) (cap' := c') hl hh hm (Nat.le_refl _) (Nat.le_refl _) (Nat.le_refl _) (Nat.zero_le c') g4 w
          have hsl : (Instr.sliceAt t (.slice (some a') 0 c') lo hi mx).run P w = .ok (.slice (some (if (if mx.isNone then c' else 0) = 0 then a' else a'.add (0 * n))) (0 - 0) ((if mx.isNone then c' else 0) - 0)) w := by
            unfold Instr.sliceAt Instr.slice
            simp only [Sem.run_bind, und_run hu, Result.andThen_ok, hbr, size_run hs, Sem.run_pure, Option.map_some]
            congr 2
            exact (apply_ite some _ _ _).symm
          refine ⟨_, hsl, ?_⟩
          unfold VR
          exact .inl ⟨rfl, rfl, rfl, _, _, rfl⟩
        · have hbr := bounds_run (P := P) (q := true) (cap' := c') hl hh hm g1 g2 g3 q2 g4 w
          have hsl : (Instr.sliceAt t (.slice (some ⟨b', o, none⟩) len c') lo hi mx).run P w = .ok (.slice (if (if mx.isNone then c' else m) = l then some ⟨b', o, none⟩ else some ⟨b', o + l * n, none⟩) (hi' - l) ((if mx.isNone then c' else m) - l)) w := by
            unfold Instr.sliceAt Instr.slice
            simp only [Sem.run_bind, und_run hu, Result.andThen_ok, hbr, size_run hs, Sem.run_pure, Option.map_some, add_mid]
          have hM : m ≤ (if mx.isNone then c' else m) ∧ (if mx.isNone then c' else m) ≤ m + xt := by
            cases mx with
            | none => simp only [boundA, Option.some.injEq] at hm; subst hm; exact ⟨q2, q5⟩
            | some _ => simp
          generalize hMM : (if mx.isNone = true then c' else m) = M at hsl hM
          cases hb2 : (Nat.blt l m || Nat.beq l 0) with
          | true =>
            rw [hb2, cond_true] at h
            cases h
            refine ⟨_, hsl, ?_⟩
            simp only [Bool.or_eq_true] at hb2
            by_cases hMl : M = l
            · have : l = 0 := by
                rcases hb2 with hb2 | hb2
                · have := Nat.le_of_ble_eq_true hb2; omega
                · exact eq_beq hb2
              rw [if_pos hMl]
              subst this
              simp only [Nat.zero_mul, Nat.add_zero]
              exact VR.mkSlice (q := (b', xt)) q1 (by omega) (by dsimp only; omega)
            · rw [if_neg hMl]
              exact VR.mkSlice (q := (b', xt)) q1 (by omega) (by dsimp only; omega)
          | false =>
            rw [hb2, cond_false] at h
            cases h
            simp only [Bool.or_eq_false_iff] at hb2
            have hlm : l = hi' := by
              have : ¬ l < m := fun hc => by have : Nat.blt l m = true := Nat.ble_eq_true_of_le hc; rw [this] at hb2; cases hb2.1
              omega
            refine ⟨_, hsl, ?_⟩
            unfold VR
            refine .inl ⟨rfl, rfl, rfl, ?_⟩
            rw [hlm, Nat.sub_self]
            split <;> exact ⟨_, _, rfl⟩
  · rename_i e hu
    unfold VR at hx
    obtain ⟨_, _, rfl⟩ := hx
    cases hs : sizeT P e with
    | none => simp [hs] at h
    | some n =>
    cases hl : boundA lo 0 with
    | none => simp [hs, hl] at h
    | some l =>
    cases hh : boundA hi 0 with
    | none => simp [hs, hl, hh] at h
    | some hi' =>
    cases hm : boundA mx 0 with
    | none => simp [hs, hl, hh, hm] at h
    | some m =>
      cases l with
      | succ l => simp [hs, hl, hh, hm] at h
      | zero =>
      cases hi' with
      | succ l => simp [hs, hl, hh, hm] at h
      | zero =>
      cases m with
      | succ l => simp [hs, hl, hh, hm] at h
      | zero =>
        simp only [hs, hl, hh, hm] at h
        cases hb : (mx.isNone || hi.isSome) with
        | false => rw [hb, cond_false] at h; cases h
        | true =>
          rw [hb, cond_true] at h
          cases h
          simp only [Bool.or_eq_true] at hb
          have hbr := bounds_run (P := P) (q := true) (cap' := 0) hl hh hm (Nat.le_refl _) (Nat.le_refl _) (Nat.le_refl _) (Nat.le_refl 0) hb w
          refine ⟨.slice none 0 0, ?_, by unfold VR; exact ⟨rfl, rfl, rfl⟩⟩
          unfold Instr.sliceAt Instr.slice
          simp only [Sem.run_bind, und_run hu, Result.andThen_ok, hbr, size_run hs, Sem.run_pure, Option.map_none]
          cases mx <;> simp
  · rename_i k e b o hu
    obtain ⟨⟨b', xt⟩, q1, rfl⟩ := hx.ptr
    cases hs : sizeT P e with
    | none => simp [hs] at h
    | some n =>
    cases hl : boundA lo 0 with
    | none => simp [hs, hl] at h
    | some l =>
    cases hh : boundA hi k with
    | none => simp [hs, hl, hh] at h
    | some hi' =>
    cases hm : boundA mx k with
    | none => simp [hs, hl, hh, hm] at h
    | some m =>
      simp only [hs, hl, hh, hm] at h
      cases hb : (Nat.ble l hi' && Nat.ble hi' m && Nat.ble m k && (mx.isNone || hi.isSome) && Nat.blt l m) with
      | false => rw [hb, cond_false] at h; cases h
      | true =>
        rw [hb, cond_true] at h
        cases h
        simp only [Bool.and_eq_true, Bool.or_eq_true, Nat.ble_eq] at hb
        obtain ⟨⟨⟨⟨g1, g2⟩, g3⟩, g4⟩, g5⟩ := hb
        have g5 := @Nat.le_of_ble_eq_true (l + 1) m g5
        have hbr := bounds_run (P := P) (q := false) (cap' := k) hl hh hm g1 g2 g3 (Nat.le_refl k) g4 w
        have hmk : (if mx.isNone then k else m) = m := by
          cases mx with
          | none => simp only [boundA, Option.some.injEq] at hm; subst hm; rfl
          | some _ => rfl
        rw [hmk] at hbr
        refine ⟨.slice (some ⟨b', o + l * n, none⟩) (hi' - l) (m - l), ?_, VR.mkSlice (q := (b', xt)) q1 (Nat.le_refl _) (Nat.le_add_right _ _)⟩
        unfold Instr.sliceAt
        simp only [Sem.run_bind, und_run hu, Result.andThen_ok, hbr, size_run hs, Sem.run_pure, Instr.sureAddr, add_mid]
        rw [if_neg (by omega)]
  · cases h
end
end Go.Proofs.YtfhnljmoilifnaaGreatDoor.Ae
end
section
namespace Go.Proofs.YtfhnljmoilifnaaGreatDoor.Ae
open Go
open Go.RowKit
set_option linter.unusedVariables false
set_option linter.unusedSimpArgs false
section
variable {P : Program} {G : Nat} {w0 : World} {ρ : Rho}
theorem addrOf_eq {v : Value} {b o : Nat} (h : addrOf v = some (b, o)) : v = .pointer (some ⟨b, o, none⟩) := by
  unfold addrOf at h
  split at h
  · cases h; rfl
  · cases h
theorem cellsOf_live {o : AObj} {q : List Value × TypeId} (h : cellsOf o = some q) : o ≠ .dead := by
  intro e
  subst e
  cases h
theorem load_ok {hp : Hp} {w : World} (hR : Rel P G w0 ρ hp w) {t : TypeId} {v x v' : Value} (h : loadA P hp t v = some x) (hv : VR ρ v v') : ∃ x', (Instr.loadAt t v').run P w = .ok x' w ∧ VR ρ x x' := by
  unfold loadA at h
  cases ha : addrOf v with
  | none => rw [ha] at h; cases h
  | some q =>
    obtain ⟨b, o⟩ := q
    rw [ha] at h
    dsimp only at h
    cases hc : cellsOf (hp.get b) with
    | none => rw [hc] at h; cases h
    | some q =>
      obtain ⟨c, e⟩ := q
      rw [hc] at h
      dsimp only at h
      have hv0 := addrOf_eq ha
      subst hv0
      obtain ⟨⟨b', xt⟩, hb, rfl⟩ := hv.ptr
      obtain ⟨cs, fz, d1, d2, h1, h2, h3, h4⟩ := (hR.live b _ hb).cellsOf hc
      unfold partA isAggT sizeT at h
      cases hu : P.underlying t with
      | none => simp [hu] at h
      | some d =>
        have hrow : ∀ n, (P.info? t).map (·.size) = some n → o + n ≤ c.length → d.isRow = true → x = .agg ((c.drop o).take n).toArray → ∃ x', (Instr.loadAt t (.pointer (some ⟨b', o, none⟩))).run P w = .ok x' w ∧ VR ρ x x' := by
          intro n hn hle hd hx
          subst hx
          have hlen : ((d1.drop o).take n).length = n := by
            have := h3.length
            rw [List.length_take, List.length_drop]
            omega
          refine ⟨_, run_loadAt_mid w b' o t ((d1.drop o).take n) d (fun j v hj => ?_) hu hd (by rw [hn, hlen]), ?_⟩
          · rw [cell_of h1]
            have hj' : j < n := by
              have := (List.getElem?_eq_some_iff.1 hj).1
              omega
            rw [List.getElem?_take_of_lt hj', List.getElem?_drop] at hj
            rw [← Array.getElem?_toList, h2, List.getElem?_append_left (List.getElem?_eq_some_iff.1 hj).1, hj]
          · exact VR.mkAgg (by simpa using (h3.drop o).take n)
        have hone : (isAgg t).run P w = .ok false w → c[o]? = some x → ∃ x', (Instr.loadAt t (.pointer (some ⟨b', o, none⟩))).run P w = .ok x' w ∧ VR ρ x x' := by
          intro hag hx
          obtain ⟨x', g1, g2⟩ := h3.get _ _ hx
          refine ⟨x', ?_, g2⟩
          have hcell : w.cell? ⟨b', o, none⟩ = some x' := by rw [cell_of h1, ← Array.getElem?_toList, h2, List.getElem?_append_left (List.getElem?_eq_some_iff.1 g1).1, g1]
          simp [Instr.loadAt, Instr.sureAddr, loadVar, hag, hcell]
        have hagF : d.isRow = false → (isAgg t).run P w = .ok false w := by
          intro hd
          unfold isAgg
          rw [Sem.run_bind, und_run hu]
          cases d <;> first | rfl | cases hd
        cases hi : P.info? t with
        | none =>
          simp only [hu, hi] at h
          cases d <;> simp at h <;> exact hone (hagF rfl) h
        | some i =>
          simp only [hu, hi] at h
          cases d <;> simp at h
          case struct fs =>
            cases hb : Nat.ble (o + i.size) c.length with
            | false => simp [hb] at h
            | true =>
              simp only [hb, cond_true, Option.some.injEq] at h
              exact hrow i.size (by simp [hi]) (Nat.le_of_ble_eq_true hb) rfl h.symm
          case array n e =>
            cases hb : Nat.ble (o + i.size) c.length with
            | false => simp [hb] at h
            | true =>
              simp only [hb, cond_true, Option.some.injEq] at h
              exact hrow i.size (by simp [hi]) (Nat.le_of_ble_eq_true hb) rfl h.symm
          all_goals exact hone (hagF rfl) h
theorem splice_append {d1 d2 vs : List Value} {o : Nat} (h : o + vs.length ≤ d1.length) : splice (d1 ++ d2) o vs = splice d1 o vs ++ d2 := by
  unfold splice
  rw [List.take_append_of_le_length (by omega), List.drop_append_of_le_length (by omega)]
  simp [List.append_assoc]
theorem splice_length {c vs : List Value} {o : Nat} (h : o + vs.length ≤ c.length) : (splice c o vs).length = c.length := by
  unfold splice
  simp
  omega
theorem storeCells_ok {hp hp' : Hp} {w : World} (hR : Rel P G w0 ρ hp w) {b o : Nat} {b' : Nat × Nat} {vs vs' : List Value} (h : storeCellsA hp G b o vs = some hp') (hb : ρ b = some b') (hv : VRs ρ vs vs') :
    w.there b'.1 o vs'.length ∧ (∀ v ∈ vs', v.oneCell' = true) ∧ Rel P G w0 ρ hp' (w.setCells b'.1 o vs') := by
  unfold storeCellsA at h
  cases hG : Nat.blt b G with
  | true => rw [hG, cond_true] at h; cases h
  | false =>
    rw [hG, cond_false] at h
    have hGb : G ≤ b := by
      rcases Nat.lt_or_ge b G with h1 | h1
      · have : Nat.blt b G = true := Nat.ble_eq_true_of_le h1
        rw [this] at hG; cases hG
      · exact h1
    cases hc : cellsOf (hp.get b) with
    | none => rw [hc] at h; cases h
    | some q =>
      obtain ⟨c, e⟩ := q
      rw [hc] at h
      dsimp only at h
      cases hk : (Nat.ble (o + vs.length) c.length && vs.all scal) with
      | false => rw [hk, cond_false] at h; cases h
      | true =>
        rw [hk, cond_true] at h
        cases h
        simp only [Bool.and_eq_true] at hk
        have hle := Nat.le_of_ble_eq_true hk.1
        obtain ⟨cs, fz, d1, d2, h1, h2, h3, h4⟩ := (hR.live b _ hb).cellsOf hc
        have hl := hv.length
        have hl3 := h3.length
        have hsz : cs.size = d1.length + d2.length := by rw [← Array.length_toList, h2, List.length_append]
        have hfit : o + vs'.length ≤ d1.length := by omega
        refine ⟨fun j hj => ⟨?_, frozen_of h1 _ (h4 _ (by omega))⟩, fun v hv' => oneCell_of ((List.all_eq_true.1 (hv.scals hk.2)) v hv'), ?_⟩
        · rw [cell_of h1]
          have : o + j < cs.size := by omega
          simp [this]
        · have hh := setCells_heap b'.1 vs' o w cs e fz h1 (by omega)
          have hsp : (splice cs.toList o vs').toArray.toList = splice d1 o vs' ++ d2 := by
            rw [h2]
            exact splice_append hfit
          have hszn : ∀ i, i < (splice cs.toList o vs').toArray.size → i < cs.size := by
            intro i hi
            have : (splice cs.toList o vs').toArray.size = cs.size := by
              rw [← Array.length_toList, hsp, List.length_append, splice_length hfit, hsz]
            omega
          obtain ⟨s1, s2, s3, s4⟩ := setCells_size b'.1 vs' o w
          refine hR.turn hb (cellsOf_live hc) hGb s1 s2 s3 s4 (fun k hk => setCells_other b'.1 vs' o w k hk) ?_ ?_
          · cases hob : hp.get b with
            | cells c' e' =>
              have hor := hR.live b _ hb
              rw [hob] at hor hc
              cases hc
              obtain ⟨cs2, fz2, g1, g2, g3⟩ := hor
              rw [h1] at g1
              cases g1
              exact ⟨_, fz, hh, by simpa using g2.splice hv o, fun i hi => h4 i (hszn i hi)⟩
            | row c' e' =>
              have hor := hR.live b _ hb
              rw [hob] at hor hc
              cases hc
              obtain ⟨cs2, fz2, e1, e2, g1, g2, g3, g4, n, g5, g6⟩ := hor
              rw [h1] at g1
              cases g1
              have hle1 : e1.length = d1.length := by rw [g3.length, h3.length]
              have hee := List.append_inj (g2.symm.trans h2) hle1
              rw [hee.2] at g6
              exact ⟨_, fz, _, d2, hh, hsp, h3.splice hv o, fun i hi => h4 i (hszn i hi), n, g5, g6⟩
            | _ => rw [hob] at hc; cases hc
          · intro hd
            cases hob : hp.get b <;> rw [hob] at hc hd <;> first | cases hc; done | cases hd
theorem store_run {w : World} {t : TypeId} {b o n : Nat} {x : Value} (hs : sizeT P t = some n) (hn : x.cells.size = n) (ht : w.there b o x.cells.toList.length) (h1 : ∀ v ∈ x.cells.toList, v.oneCell' = true) :
    (Instr.storeAt t (.pointer (some ⟨b, o, none⟩)) x).run P w = .ok () (w.setCells b o x.cells.toList) := by
  have := run_storeCells_cells (P := P) b o x.cells.toList 0 w (fun j hj => by simpa using (ht j hj).1) (fun j hj => by simpa using (ht j hj).2) h1
  simp only [Nat.add_zero] at this
  simp only [Instr.storeAt, Instr.sureAddr, storeVar, Sem.run_bind, Sem.run_pure, Result.andThen_ok, size_run hs, hn]
  simp [this]
theorem store_ok {hp hp' : Hp} {w : World} (hR : Rel P G w0 ρ hp w) {t : TypeId} {a x a' x' : Value} (h : storeA P G hp t a x = some hp') (ha : VR ρ a a') (hx : VR ρ x x') : ∃ w', (Instr.storeAt t a' x').run P w = .ok () w' ∧ Rel P G w0 ρ hp' w' := by
  unfold storeA at h
  cases hq : addrOf a with
  | none => rw [hq] at h; cases h
  | some q =>
    obtain ⟨b, o⟩ := q
    cases hs : sizeT P t with
    | none => rw [hq, hs] at h; cases h
    | some n =>
      rw [hq, hs] at h
      dsimp only at h
      cases hn : Nat.beq x.cells.size n with
      | false => rw [hn, cond_false] at h; cases h
      | true =>
        rw [hn, cond_true] at h
        have hne := eq_beq hn
        have := addrOf_eq hq
        subst this
        obtain ⟨⟨b', xt⟩, hb, rfl⟩ := ha.ptr
        have hcx := hx.cells
        obtain ⟨g1, g2, g3⟩ := storeCells_ok hR h hb hcx
        exact ⟨_, store_run hs (by have := hcx.length; simpa [← hne] using this) g1 g2, g3⟩
theorem push_lt (w : World) (o : Obj) : w.heap.size < (w.alloc o).heap.size := by show w.heap.size < (w.heap.push _).size; rw [Array.size_push]; omega
theorem born_cells {w : World} {c c' : List Value} {e : TypeId} (hc : VRs ρ c c') : Born P ρ w (w.alloc (.cells c'.toArray e)) (.cells c e) 0 ptrTo (.pointer (some ⟨w.heap.size, 0, none⟩)) :=
  ⟨Below.alloc (Below.refl w.heap.size w) (Nat.le_refl _) _, push_lt _ _, fun ρ' hle => ⟨c'.toArray, (0, 0), Array.getElem?_push_size, VRs.mono hle _ _ hc, fun i _ h => by omega⟩, fun ρ' b hb => VR.mkPtr (q := (w.heap.size, 0)) hb⟩
theorem born_row {w w1 : World} {c c' : List Value} {e : TypeId} (hc : VRs ρ c c') {cs : Array Value} {d2 : List Value} (hcs : cs.toList = c' ++ d2) {fz : Nat × Nat}
    (hb : Below w.heap.size w w1) (hat : w1.heap[w.heap.size]? = some (.cells cs e fz)) (hf : ∀ i, i < cs.size → ¬ (fz.1 ≤ i ∧ i < fz.2)) {x n : Nat} (hn1 : sizeT P e = some n) (hx : d2.length = x * n) {l cp cp' : Nat} (h1 : cp ≤ cp') (h2 : cp' ≤ cp + x) :
    Born P ρ w w1 (.row c e) x (fun b => .slice (some ⟨b, 0, none⟩) l cp) (.slice (some ⟨w.heap.size, 0, none⟩) l cp') := by
  have hlt : w.heap.size < w1.heap.size := by
    rcases Nat.lt_or_ge w.heap.size w1.heap.size with h | h
    · exact h
    · rw [Array.getElem?_eq_none h] at hat; cases hat
  exact ⟨hb, hlt, fun ρ' hle => ⟨cs, fz, c', d2, hat, hcs, VRs.mono hle _ _ hc, hf, n, hn1, hx⟩, fun ρ' b hb => VR.mkSlice (q := (w.heap.size, x)) hb h1 h2⟩
theorem box_born {w : World} {e : TypeId} {z z' : Value} (hz : VR ρ z z') : (Instr.box e z').run P w = .ok (.pointer (some ⟨w.heap.size, 0, none⟩)) (w.alloc (.cells z'.cells.toList.toArray e)) := rfl
theorem zero_run {t : TypeId} {z : Value} (h : zeroT P t = some z) (w : World) : (zeroValue t).run P w = .ok z w := by
  unfold zeroT at h
  unfold zeroValue typeInfo
  cases hi : P.info? t with
  | none => simp [hi] at h
  | some i =>
    simp [hi] at h
    simp [hi, h]
theorem alloc_born {w : World} {e : TypeId} {z : Value} (hz : zeroT P e = some z) : (Instr.alloc e true (.tuple #[])).run P w = .ok (.pointer (some ⟨w.heap.size, 0, none⟩)) (w.alloc (.cells z.cells.toList.toArray e)) := by
  unfold Instr.alloc
  simp only [Sem.run_bind, zero_run hz, Result.andThen_ok]
  rfl
end
end Go.Proofs.YtfhnljmoilifnaaGreatDoor.Ae
end
section
namespace Go.Proofs.YtfhnljmoilifnaaGreatDoor.Ae
open Go
open Go.RowKit
set_option linter.unusedVariables false
set_option linter.unusedSimpArgs false
section
variable {P : Program} {G : Nat} {w0 : World} {ρ : Rho}
theorem splice_cons {c : List Value} {o : Nat} {v : Value} {r : List Value} (h : o + (r.length + 1) ≤ c.length) : splice (c.set o v) (o + 1) r = splice c o (v :: r) := by
  have ho : o < c.length := by omega
  unfold splice
  simp only [List.length_cons]
  rw [List.take_set, List.drop_set, if_pos (by omega), show o + (r.length + 1) = o + 1 + r.length by omega]
  have hm : min o c.length = o := by omega
  rw [List.take_succ_eq_append_getElem ho, List.set_append_right]
  · simp [hm]
  · simp [hm]
theorem fold_splice (off : Nat) : ∀ (l : List Value) (k : Nat) (cells : Array Value), off + k + l.length ≤ cells.size → ((l.zipIdx k).foldl (fun (cs : Array Value) (p : Value × Nat) => cs.setIfInBounds (off + p.2) p.1) cells).toList = splice cells.toList (off + k) l
  | [], k, cells, h => by simp [splice]
  | v :: r, k, cells, h => by
    simp only [List.length_cons] at h
    simp only [List.zipIdx_cons, List.foldl_cons]
    rw [fold_splice off r (k + 1) _ (by simp; omega), Array.toList_setIfInBounds, show off + (k + 1) = off + k + 1 by omega, splice_cons (by simp; omega)]
def partsR (ρ : Rho) : List (Nat × Value) → List (Nat × Value) → Prop
  | [], l => l = []
  | p :: ps, l => ∃ v' ps', l = (p.1, v') :: ps' ∧ VR ρ p.2 v' ∧ partsR ρ ps ps'
theorem fill_ok {place : Nat → Option (Nat × Nat)} : ∀ {ps ps' : List (Nat × Value)} {c c2 : List Value} {cs : Array Value}, fillA place c ps = some c2 → partsR ρ ps ps' → VRs ρ c cs.toList → ∃ cs2, Instr.fill place cs ps' = some cs2 ∧ VRs ρ c2 cs2.toList
  | [], ps', c, c2, cs, h, hp, hc => by
    simp only [fillA, Option.some.injEq] at h
    subst h
    rw [show ps' = [] from hp]
    exact ⟨cs, rfl, hc⟩
  | (i, v) :: rest, ps', c, c2, cs, h, hp, hc => by
    obtain ⟨v', rest', rfl, hv, hrest⟩ := hp
    simp only [fillA] at h
    cases hpl : place i with
    | none => rw [hpl] at h; cases h
    | some q =>
      obtain ⟨off, size⟩ := q
      rw [hpl] at h
      dsimp only at h
      cases hb : (Nat.beq v.cells.size size && Nat.ble (off + size) c.length) with
      | false => rw [hb, cond_false] at h; cases h
      | true =>
        rw [hb, cond_true] at h
        simp only [Bool.and_eq_true] at hb
        have h1 := eq_beq hb.1
        have h2 := Nat.le_of_ble_eq_true hb.2
        have hcl := hc.length
        have hvl : v'.cells.size = size := by have := hv.cells.length; simpa [h1] using this
        have hsz : off + v'.cells.size ≤ cs.size := by rw [Array.length_toList] at hcl; omega
        have hsp : VRs ρ (splice c off v.cells.toList) ((v'.cells.zipIdx.foldl (fun (cs : Array Value) (p : Value × Nat) => cs.setIfInBounds (off + p.2) p.1) cs)).toList := by
          have := fold_splice off v'.cells.toList 0 cs (by simpa using hsz)
          rw [← Array.foldl_toList, Array.toList_zipIdx, this]
          exact hc.splice hv.cells _
        obtain ⟨cs2, g1, g2⟩ := fill_ok h hrest hsp
        refine ⟨cs2, ?_, g2⟩
        unfold Instr.fill
        simp only [hpl]
        rw [if_neg]
        · exact g1
        · simp [hvl]; omega
theorem parts_ok {w : World} {hp : Hp} {s : St} {a : Act} (hR : Rel P G w0 ρ hp w) (hT : TR ρ s a) : ∀ {ps : List (Nat × Operand)} {vs : List (Nat × Value)}, partsA G s.t ps = some vs → partsR ρ vs (ps.map fun p => (p.1, a.eval p.2))
  | [], vs, h => by simp only [partsA, Option.some.injEq] at h; subst h; rfl
  | (i, x) :: ps, vs, h => by
    simp only [partsA] at h
    cases h1 : opd G s.t x with
    | none => rw [h1] at h; cases h
    | some v =>
      rw [h1] at h
      dsimp only at h
      cases h2 : partsA G s.t ps with
      | none => rw [h2] at h; cases h
      | some us =>
        rw [h2] at h
        cases h
        exact ⟨_, _, rfl, (opd_ok hR hT h1).1, parts_ok hR hT h2⟩
theorem flats_cells {z : Value} (h : flat z = true) : flats z.cells.toList = true := by
  by_cases hs : ∃ cs, z = .agg cs
  · obtain ⟨cs, rfl⟩ := hs
    exact h
  · have e : z.cells = #[z] := by cases z <;> first | rfl | exact absurd ⟨_, rfl⟩ hs
    rw [e]
    show (flat z && true) = true
    rw [h]
    rfl
theorem places_run (w : World) : ∀ {fs : List Field} {pl : List (Nat × Nat)}, placesA P fs = some pl → (fs.mapM (fun f => do pure (f.offset, ← sizeOf f.type)) : Sem (List (Nat × Nat))).run P w = .ok pl w
  | [], pl, h => by simp only [placesA, Option.some.injEq] at h; subst h; rfl
  | f :: fs, pl, h => by
    simp only [placesA] at h
    cases h1 : sizeT P f.type with
    | none => rw [h1] at h; cases h
    | some n =>
      rw [h1] at h
      dsimp only at h
      cases h2 : placesA P fs with
      | none => rw [h2] at h; cases h
      | some l =>
        rw [h2] at h
        cases h
        rw [List.mapM_cons]
        simp only [Sem.run_bind, size_run h1, Result.andThen_ok, Sem.run_pure, places_run w h2]
theorem build_ok {t : TypeId} {ps ps' : List (Nat × Value)} {v : Value} (h : buildA P t ps = some v) (hps : partsR ρ ps ps') (w : World) : ∃ v', (Instr.build t ps'.toArray).run P w = .ok v' w ∧ VR ρ v v' := by
  unfold buildA at h
  cases hz : zeroT P t with
  | none => rw [hz] at h; cases h
  | some z =>
    rw [hz] at h
    dsimp only at h
    cases hf : flat z with
    | false => rw [hf] at h; cases h
    | true =>
    rw [hf, Bool.not_true, cond_false] at h
    have hzs : VRs ρ z.cells.toList z.cells.toList := flats_self _ (flats_cells hf)
    unfold Instr.build
    cases hu : P.underlying t with
    | none => rw [hu] at h; cases h
    | some d =>
      rw [hu] at h
      cases d <;> first | cases h; done | skip
      case struct fs =>
        dsimp only at h
        cases hpl : placesA P fs.toList with
        | none => rw [hpl] at h; cases h
        | some pl =>
          rw [hpl] at h
          dsimp only at h
          cases hfl : fillA (pl[·]?) z.cells.toList ps with
          | none => rw [hfl] at h; cases h
          | some c =>
            rw [hfl] at h
            cases h
            obtain ⟨cs2, g1, g2⟩ := fill_ok hfl hps hzs
            refine ⟨.agg cs2, ?_, VR.mkAgg (by simpa using g2)⟩
            simp only [Sem.run_bind, zero_run hz, Result.andThen_ok, und_run hu]
            rw [Array.mapM_eq_mapM_toList]
            simp only [Sem.run_map, places_run w hpl, Result.andThen_ok]
            have : (fun x => pl.toArray[x]? : Nat → Option (Nat × Nat)) = (pl[·]?) := by funext x; simp
            simp only [this, g1, Sem.run_pure]
      case array n e =>
        dsimp only at h
        cases hs : sizeT P e with
        | none => rw [hs] at h; cases h
        | some n =>
          rw [hs] at h
          dsimp only at h
          cases hfl : fillA (fun i => some (i * n, n)) z.cells.toList ps with
          | none => rw [hfl] at h; cases h
          | some c =>
            rw [hfl] at h
            cases h
            obtain ⟨cs2, g1, g2⟩ := fill_ok hfl hps hzs
            refine ⟨.agg cs2, ?_, VR.mkAgg (by simpa using g2)⟩
            simp only [Sem.run_bind, zero_run hz, Result.andThen_ok, und_run hu, size_run hs, g1, Sem.run_pure]
end
end Go.Proofs.YtfhnljmoilifnaaGreatDoor.Ae
end
section
namespace Go.Proofs.YtfhnljmoilifnaaGreatDoor.Ae
open Go
open Go.RowKit
set_option linter.unusedVariables false
set_option linter.unusedSimpArgs false
section
variable {P : Program} {G : Nat} {w0 : World} {ρ : Rho}
theorem zerosA_length (z : List Value) : ∀ n, (zerosA z n).length = n * z.length
  | 0 => by simp [zerosA]
  | n + 1 => by simp [zerosA, zerosA_length z n, Nat.succ_mul]; omega
theorem zerosA_get (z : List Value) (hz : 0 < z.length) : ∀ n i, i < n * z.length → (zerosA z n)[i]? = z[i % z.length]?
  | 0, i, h => by omega
  | n + 1, i, h => by
    rw [Nat.succ_mul] at h
    simp only [zerosA]
    by_cases hi : i < z.length
    · rw [List.getElem?_append_left hi, Nat.mod_eq_of_lt hi]
    · rw [List.getElem?_append_right (by omega), zerosA_get z hz n _ (by omega)]
      congr 1
      rw [Nat.mod_eq_sub_mod (a := i) (by omega)]
theorem zeros_eq (z : Array Value) (hz : 0 < z.size) (n : Nat) : ((Array.range (n * z.size)).map (z[· % z.size]!)).toList = zerosA z.toList n := by
  apply List.ext_getElem?
  intro i
  by_cases hi : i < n * z.size
  · rw [zerosA_get z.toList (by simpa using hz) n i (by simpa using hi)]
    have hm : i % z.size < z.size := Nat.mod_lt _ hz
    simp [hi, hm]
  · rw [List.getElem?_eq_none (by simp; omega), List.getElem?_eq_none (by rw [zerosA_length]; simp; omega)]
theorem flats_append {a b : List Value} (ha : flats a = true) (hb : flats b = true) : flats (a ++ b) = true := by
  induction a with
  | nil => exact hb
  | cons x xs ih =>
    simp only [flats, Bool.and_eq_true, List.cons_append] at ha ⊢
    exact ⟨ha.1, ih ha.2⟩
theorem flats_zeros {z : List Value} (h : flats z = true) : ∀ n, flats (zerosA z n) = true
  | 0 => rfl
  | n + 1 => flats_append h (flats_zeros h n)
theorem newRow_run (e : TypeId) (cs : Array Value) (w : World) : (newRow e cs).run P w = .ok ⟨w.heap.size, 0, none⟩ (w.alloc (.cells cs e)) := rfl
theorem buildSlice_born {w : World} {t : TypeId} {len : Nat} {ps ps' : List (Nat × Value)} {ob : AObj} {mk : Nat → Value} (h : buildSliceA P t len ps = some (ob, mk)) (hps : partsR ρ ps ps') :
    ∃ v' w1 x, (Instr.buildSlice t len ps'.toArray).run P w = .ok v' w1 ∧ Born P ρ w w1 ob x mk v' := by
  unfold buildSliceA at h
  split at h
  · rename_i e hu
    cases hs : sizeT P e with
    | none => simp [hs] at h
    | some n =>
    cases hz : zeroT P e with
    | none => simp [hs, hz] at h
    | some z =>
      simp only [hs, hz] at h
      cases hb : (Nat.beq z.cells.size n && Nat.ble (len * n) 16777216 && Nat.ble 1 n && flat z) with
      | false => rw [hb, cond_false] at h; cases h
      | true =>
        rw [hb, cond_true] at h
        simp only [Bool.and_eq_true] at hb
        obtain ⟨⟨⟨g1, g2⟩, g3⟩, g4⟩ := hb
        have g1 := eq_beq g1
        have g2 := Nat.le_of_ble_eq_true g2
        have g3 := Nat.le_of_ble_eq_true g3
        cases hfl : fillA (fun i => some (i * n, n)) (zerosA z.cells.toList len) ps with
        | none => rw [hfl] at h; cases h
        | some c =>
          rw [hfl] at h
          dsimp only at h
          cases h
          have hzs : VRs ρ (zerosA z.cells.toList len) ((Array.range (len * n)).map (z.cells[· % z.cells.size]!)).toList := by
            rw [← g1, zeros_eq z.cells (by omega)]
            exact flats_self _ (flats_zeros (flats_cells g4) len)
          obtain ⟨cs2, f1, f2⟩ := fill_ok hfl hps hzs
          have hbel := Below.alloc (Below.refl w.heap.size w) (Nat.le_refl _) (.cells cs2 e)
          refine ⟨.slice (some ⟨w.heap.size, 0, none⟩) len len, _, 0, ?_, born_row f2 (cs := cs2) (d2 := []) (fz := (0, 0)) (by simp) hbel Array.getElem?_push_size (fun i _ h => by omega) (x := 0) (n := n) hs (by simp) (Nat.le_refl _) (Nat.le_refl _)⟩
          unfold Instr.buildSlice
          by_cases h0 : len * n = 0
          · have hl0 : len = 0 := by
              rcases Nat.mul_eq_zero.1 h0 with h | h
              · exact h
              · omega
            subst hl0
            have e0 : ∀ z : Array Value, (Array.range (0 * n)).map (z[· % z.size]!) = #[] := by intro z; simp
            rw [e0] at f1
            simp only [Sem.run_bind, und_run hu, Result.andThen_ok, size_run hs]
            rw [if_neg (by omega)]
            simp only [Sem.run_bind, Result.andThen_ok, Sem.run_ite, h0, if_true, Sem.run_pure]
            simp only [Array.range, Array.ofFn_zero, Array.map_empty]
            simp only [f1, newRow_run, Sem.run_bind, Result.andThen_ok, Sem.run_pure]
          · simp only [Sem.run_bind, und_run hu, Result.andThen_ok, size_run hs]
            rw [if_neg (by omega)]
            simp only [Sem.run_bind, Result.andThen_ok, Sem.run_ite, h0, if_false, zero_run hz, Sem.run_pure]
            simp only [f1, newRow_run, Sem.run_bind, Result.andThen_ok, Sem.run_pure]
  · cases h
theorem makeSlice_born {w : World} {t : TypeId} {l c : Value} {ob : AObj} {mk : Nat → Value} (h : makeSliceA P t l c = some (ob, mk)) :
    ∃ v' w1 x, (Instr.makeSlice t l c).run P w = .ok v' w1 ∧ Born P ρ w w1 ob x mk v' := by
  unfold makeSliceA at h
  split at h
  · rename_i e kl l kc c hu
    cases hi : P.info? e with
    | none => simp [hi] at h
    | some i =>
    cases hz : i.zero with
    | none => simp [hi, hz] at h
    | some z =>
      simp only [hi, hz] at h
      cases hb : (decide (0 ≤ l) && decide (l ≤ c) && decide (c ≤ 100000) && Nat.ble i.bytes 100000 && Nat.beq z.cells.size i.size && flat z && Nat.ble 1 i.size) with
      | false => rw [hb, cond_false] at h; cases h
      | true =>
        rw [hb, cond_true] at h
        simp only [Bool.and_eq_true, decide_eq_true_eq] at hb
        obtain ⟨⟨⟨⟨⟨⟨g1, g2⟩, g3⟩, g4⟩, g5⟩, g6⟩, g7⟩ := hb
        have g7 := Nat.le_of_ble_eq_true g7
        have g4 := Nat.le_of_ble_eq_true g4
        have g5 := eq_beq g5
        cases h
        have hbytes : (i.bytes : Int) * c ≤ 281474976710656 := by
          have h1 : (i.bytes : Int) * c ≤ 100000 * 100000 := Int.mul_le_mul (by omega) g3 (by omega) (by omega)
          omega
        have hr := run_make (P := P) w t e i z hu hi hz kl kc l c g1 g2 hbytes (by omega)
        have hcs : (madeCells z.cells (c.toNat * i.size)).toList = zerosA z.cells.toList c.toNat := by
          rw [← g5, ← zeros_eq z.cells (by omega)]
          rfl
        have hbel := Below.alloc (Below.refl w.heap.size w) (Nat.le_refl _) (.cells (madeCells z.cells (c.toNat * i.size)) e)
        exact ⟨_, _, 0, hr, born_row (flats_self _ (flats_zeros (flats_cells g6) c.toNat)) (cs := madeCells z.cells (c.toNat * i.size)) (d2 := []) (fz := (0, 0)) (by simp [hcs]) hbel Array.getElem?_push_size (fun i _ h => by omega) (x := 0) (n := i.size) (by simp [sizeT, hi]) (by simp) (Nat.le_refl _) (Nat.le_refl _)⟩
  · cases h
end
end Go.Proofs.YtfhnljmoilifnaaGreatDoor.Ae
end
section
namespace Go.Proofs.YtfhnljmoilifnaaGreatDoor.Ae
open Go
open Go.RowKit
set_option linter.unusedVariables false
set_option linter.unusedSimpArgs false
section
variable {P : Program} {G : Nat} {w0 : World} {ρ : Rho}
theorem cellsIn_ok {hp : Hp} {w : World} (hR : Rel P G w0 ρ hp w) {n k : Nat} {x x' : Value} {c : List Value} (h : cellsIn hp n x = some (c, k)) (hx : VR ρ x x') :
    (∃ c' a' cp', x' = .slice (some a') k cp' ∧ VRs ρ c c' ∧ c'.length = k * n ∧ ∀ j u, c'[j]? = some u → w.cell? (a'.add j) = some u) ∨ (x' = .slice none 0 0 ∧ c = [] ∧ k = 0) ∨ (∃ s, x = .string s ∧ x' = .string s ∧ c = byteCells s ∧ k = s.size) := by
  unfold cellsIn at h
  split at h
  · rename_i b o len cp
    unfold VR at hx
    cases hb : (Nat.beq b 1000000 && Nat.beq len 0) with
    | true =>
      rw [hb, cond_true] at h
      cases h
      simp only [Bool.and_eq_true] at hb
      have hl := eq_beq hb.2
      subst hl
      rcases hx with ⟨_, _, _, a', c', rfl⟩ | ⟨_, b', xt, c', _, _, _, rfl⟩
      · exact .inl ⟨[], a', c', rfl, VRs.nil, by simp, fun j u hj => by simp at hj⟩
      · exact .inl ⟨[], _, c', rfl, VRs.nil, by simp, fun j u hj => by simp at hj⟩
    | false =>
      rw [hb, cond_false] at h
      cases hc : cellsOf (hp.get b) with
      | none => rw [hc] at h; cases h
      | some q =>
        obtain ⟨cc, e⟩ := q
        rw [hc] at h
        dsimp only at h
        cases hle : Nat.ble (o + len * n) cc.length with
        | false => rw [hle, cond_false] at h; cases h
        | true =>
          rw [hle, cond_true] at h
          cases h
          have hle := Nat.le_of_ble_eq_true hle
          rcases hx with ⟨q1, q2, _, a', c', rfl⟩ | ⟨_, b', xt, c', q1, _, _, rfl⟩
          · subst q2
            exact .inl ⟨[], a', c', rfl, by simpa using VRs.nil, by simp, fun j u hj => by simp at hj⟩
          · obtain ⟨cs, fz, d1, d2, h1, h2, h3, h4⟩ := (hR.live b _ q1).cellsOf hc
            have hl := h3.length
            refine .inl ⟨(d1.drop o).take (k * n), _, c', rfl, (h3.drop o).take _, by rw [List.length_take, List.length_drop]; omega, fun j u hj => ?_⟩
            rw [add_mid, cell_of h1]
            have hj' : j < k * n := by
              have := (List.getElem?_eq_some_iff.1 hj).1
              rw [List.length_take] at this
              omega
            rw [List.getElem?_take_of_lt hj', List.getElem?_drop] at hj
            rw [← Array.getElem?_toList, h2, List.getElem?_append_left (List.getElem?_eq_some_iff.1 hj).1, hj]
  · cases h
    unfold VR at hx
    exact .inr (.inl ⟨hx.2.2, rfl, rfl⟩)
  · rename_i s
    cases h
    exact .inr (.inr ⟨s, rfl, hx.string, rfl, rfl⟩)
  · cases h
theorem src_ok {hp : Hp} {w : World} (hR : Rel P G w0 ρ hp w) {n k : Nat} {x x' : Value} {c : List Value} {tx : TypeId} {xd : TypeDesc} (h : cellsIn hp n x = some (c, k)) (hx : VR ρ x x') (hu : P.underlying tx = some xd) (hs : srcOk xd x n = true) (hsc : c.all scal = true) :
    ∃ c', VRs ρ c c' ∧ c'.length = k * n ∧ Src P n tx x' k c' w := by
  rcases cellsIn_ok hR h hx with ⟨c', a', cp', rfl, h1, h2, h3⟩ | ⟨rfl, rfl, rfl⟩ | ⟨s, rfl, rfl, rfl, rfl⟩
  · have hxd : ∃ e, xd = .slice e := by
      cases x <;> (try (simp [cellsIn] at h; done)) <;> (cases xd <;> first | exact ⟨_, rfl⟩ | (simp [srcOk] at hs; done) | skip)
      all_goals (simp [VR] at hx)
    obtain ⟨e, rfl⟩ := hxd
    exact ⟨c', h1, h2, Src.ofSlice w hu a' k cp' c' h2 h3 (fun u hu => oneCell_of (List.all_eq_true.1 (h1.scals hsc) u hu))⟩
  · have hxd : ∃ e, xd = .slice e := by
      cases x <;> (try (simp [cellsIn] at h; done)) <;> (cases xd <;> first | exact ⟨_, rfl⟩ | (simp [srcOk] at hs; done) | skip)
      all_goals (simp [VR] at hx)
    obtain ⟨e, rfl⟩ := hxd
    exact ⟨[], VRs.nil, by simp, Src.ofNil w hu 0⟩
  · have hxd : xd = .string ∧ n = 1 := by
      cases xd <;> simp [srcOk] at hs
      exact ⟨rfl, hs⟩
    obtain ⟨rfl, rfl⟩ := hxd
    have hsf : ∀ l : List UInt8, flats (l.map fun b => Value.int .u8 b.toNat) = true := by
      intro l
      induction l with
      | nil => rfl
      | cons a l ih => simp only [List.map_cons, flats, flat, Bool.true_and]; exact ih
    exact ⟨byteCells s, flats_self _ (hsf _), by rw [byteCells_length, Nat.mul_one], Src.ofString w hu s⟩
theorem Rel.regrow {hp hp' : Hp} {w w' : World} {o : AObj} {b c : Nat} {q : Nat × Nat} {x : Nat} (h : Rel P G w0 ρ hp w) (hr : ρ b = some q) (hnd : hp.get b ≠ .dead) (hG : G ≤ b) (hn : (hp.put b .dead).new o = some (c, hp'))
    (hsz : w'.heap.size = w.heap.size) (ho' : w'.os = w.os) (ht' : w'.tape = w.tape) (hu' : w'.output = w.output) (hoth : ∀ k, k ≠ q.1 → w'.heap[k]? = w.heap[k]?) (ho : OR P (ρ.put c (q.1, x)) w' o (q.1, x)) :
    Grow hp hp' ρ (ρ.put c (q.1, x)) ∧ Rel P G w0 (ρ.put c (q.1, x)) hp' w' := by
  have hbn : b < 1000000 := by have := (h.bnd _ _ hr).1; have := h.top; omega
  obtain ⟨rfl, hlt2, hn', hget⟩ := Hp.new_eq hn
  have hpn : (hp.put b .dead).n = hp.n := rfl
  rw [hpn] at hlt2 hn' hget
  have hgp := fun d => Hp.get_put hp b .dead d hbn
  have hnone : ρ hp.n = none := by
    cases e : ρ hp.n with
    | none => rfl
    | some x => have := (h.bnd _ _ e).1; omega
  have hbne : b ≠ hp.n := fun e => by rw [e, hnone] at hr; cases hr
  have hle := Rho.put_le hnone (q.1, x)
  have hat : ∀ d r, ρ.put hp.n (q.1, x) d = some r → (d = hp.n ∧ r = (q.1, x)) ∨ (d ≠ hp.n ∧ ρ d = some r) := by
    intro d r e
    unfold Rho.put at e
    by_cases hd : d = hp.n
    · rw [if_pos hd] at e; cases e; exact .inl ⟨hd, rfl⟩
    · rw [if_neg hd] at e; exact .inr ⟨hd, e⟩
  refine ⟨⟨hle, fun c hc => by unfold Rho.put; rw [if_neg (by omega)], by omega⟩, ⟨fun d r e => ?_, fun d1 d2 r1 r2 e1 e2 e3 n1 n2 => ?_, fun d r e => ?_, fun g hg => ⟨hle _ _ (h.glob g hg).1, (h.glob g hg).2⟩, fun d r hd e => ?_, ?_, by omega, by have := h.gle; omega⟩⟩
  · rw [hget]
    rcases hat d r e with ⟨rfl, rfl⟩ | ⟨hd, e⟩
    · rw [if_pos rfl]; exact ho
    · rw [if_neg (Ne.symm hd), hgp]
      by_cases hbd : b = d
      · rw [if_pos hbd]; trivial
      · rw [if_neg hbd]
        by_cases hdd : hp.get d = .dead
        · rw [hdd]; trivial
        · exact OR.move hle (hoth r.1 (fun x => hbd (h.inj b d q r hr e x.symm hnd hdd))) (h.live d r e)
  · rw [hget] at n1 n2
    rcases hat d1 r1 e1 with ⟨rfl, rfl⟩ | ⟨hd1, e1⟩
    · rcases hat d2 r2 e2 with ⟨rfl, rfl⟩ | ⟨hd2, e2⟩
      · rfl
      · rw [if_neg (Ne.symm hd2), hgp] at n2
        by_cases hbd : b = d2
        · rw [if_pos hbd] at n2; exact absurd rfl n2
        · rw [if_neg hbd] at n2
          exact absurd (h.inj b d2 q r2 hr e2 e3 hnd n2) hbd
    · rcases hat d2 r2 e2 with ⟨rfl, rfl⟩ | ⟨hd2, e2⟩
      · rw [if_neg (Ne.symm hd1), hgp] at n1
        by_cases hbd : b = d1
        · rw [if_pos hbd] at n1; exact absurd rfl n1
        · rw [if_neg hbd] at n1
          exact absurd (h.inj b d1 q r1 hr e1 e3.symm hnd n1) hbd
      · rw [if_neg (Ne.symm hd1), hgp] at n1
        rw [if_neg (Ne.symm hd2), hgp] at n2
        refine h.inj d1 d2 r1 r2 e1 e2 e3 ?_ ?_
        · by_cases hbd : b = d1
          · rw [if_pos hbd] at n1; exact absurd rfl n1
          · rwa [if_neg hbd] at n1
        · by_cases hbd : b = d2
          · rw [if_pos hbd] at n2; exact absurd rfl n2
          · rwa [if_neg hbd] at n2
  · rcases hat d r e with ⟨rfl, rfl⟩ | ⟨hd, e⟩
    · exact ⟨by omega, by rw [hsz]; exact (h.bnd b q hr).2⟩
    · have := h.bnd d r e
      exact ⟨by omega, by rw [hsz]; exact this.2⟩
  · rcases hat d r e with ⟨rfl, rfl⟩ | ⟨hdd, e⟩
    · exact h.new b q hG hr
    · exact h.new d r hd e
  · exact ⟨ho'.trans h.low.os, ht'.trans h.low.tape, hu'.trans h.low.output, by rw [hsz]; exact h.low.size, fun k hk => (hoth k (fun e => by have := h.new b q hG hr; omega)).trans (h.low.block k hk)⟩
theorem storeCells_n {hp hp' : Hp} {b o : Nat} {vs : List Value} (h : storeCellsA hp G b o vs = some hp') : hp.n ≤ hp'.n := by
  unfold storeCellsA at h
  cases hG : Nat.blt b G with
  | true => rw [hG] at h; cases h
  | false =>
    rw [hG, cond_false] at h
    split at h
    · cases h
    · rename_i c e hc
      cases hk : (Nat.ble (o + vs.length) c.length && vs.all scal) with
      | false => rw [hk] at h; cases h
      | true => rw [hk] at h; cases h; exact Nat.le_refl _
theorem zeroCells_length {z : Value} {n m : Nat} (hz : z.cells.size = n) : (Builtin.zeroCells z.cells m).toList.length = m * n := by
  rw [Array.length_toList, size_zeroCells, hz]
theorem appendTo_ok {hp hp' : Hp} {w : World} (hR : Rel P G w0 ρ hp w) {t tx ty e : TypeId} {i : TypeInfo} {z : Value} (ht : P.underlying t = some (.slice e)) (hi : P.info? e = some i) (hz : i.zero = some z) (h1 : 1 ≤ i.size) (hby : i.bytes ≤ 100000)
    (hzs : z.cells.size = i.size) {s s' x' v : Value} {new new' : List Value} {k : Nat} (hnew : VRs ρ new new') (hnl : new'.length = k * i.size) (hsrc : Src P i.size tx x' k new' w) (hk : k ≤ 1000000) (h : appendTo G hp e i.size new k s = some (v, hp')) (hs : VR ρ s s') :
    ∃ v' w' ρ', (Builtin.append_ #[t, tx] ty #[s', x']).run P w = .ok v' w' ∧ Grow hp hp' ρ ρ' ∧ Rel P G w0 ρ' hp' w' ∧ VR ρ' v v' := by
  have hse : sizeT P e = some i.size := by simp [sizeT, hi]
  have hnone : ∀ {sLen sCap : Nat} {base : Option Addr}, k = 0 → sLen ≤ sCap → (Builtin.append_ #[t, tx] ty #[.slice base sLen sCap, x']).run P w = .ok (.slice base sLen sCap) w := by
    intro sLen sCap base hk0 hle
    subst hk0
    have : new' = [] := List.eq_nil_of_length_eq_zero (by omega)
    subst this
    exact run_append_nothing w t tx ty e i ht hi base sLen sCap hle x' hsrc
  have hfit : ∀ {sLen sCap : Nat}, sCap < sLen + k → sLen + k ≤ 2000000 → Builtin.nextslicecap (sLen + k) sCap * i.bytes ≤ 281474976710656 := by
    intro sLen sCap hg hm
    have := nextslicecap_le hg
    calc Builtin.nextslicecap (sLen + k) sCap * i.bytes ≤ 4000000 * 100000 := Nat.mul_le_mul (by omega) hby
      _ ≤ 281474976710656 := by decide
  unfold appendTo at h
  split at h
  · have hs' : s' = .slice none 0 0 := by unfold VR at hs; exact hs.2.2
    subst hs'
    cases hk0 : Nat.beq k 0 with
    | true =>
      rw [hk0, cond_true] at h
      cases h
      exact ⟨_, w, ρ, hnone (eq_beq hk0) (Nat.le_refl _), Grow.refl _ _, hR, hs⟩
    | false =>
      rw [hk0, cond_false] at h
      have hkp : 0 < k := by
        rcases Nat.eq_zero_or_pos k with h | h
        · rw [beqT h] at hk0; cases hk0
        · exact h
      cases hn : hp.new (.row new e) with
      | none => rw [hn] at h; cases h
      | some q =>
        obtain ⟨b, hp1⟩ := q
        rw [hn] at h
        cases h
        have hr := run_append_grow_src (P := P) w t tx ty e i z ht hi hz none 0 0 [] (by simpa using run_firstCells_none w.drew i.size 0 0 0) x' k new' hsrc (by omega) (by omega) (hfit (by omega) (by omega))
        have hge := grownCap_ge w (0 + k) 0 e
        generalize hgc : grownCap w (0 + k) 0 e = gc at hr hge
        simp only [List.nil_append, Nat.zero_add] at hr hge
        have hbel : Below w.heap.size w (w.drew.alloc (.cells (new'.toArray ++ Builtin.zeroCells z.cells (gc - k)) e)) := Below.alloc (Below.drew (Below.refl w.heap.size w)) (Nat.le_refl _) _
        obtain ⟨k1, k2, k3⟩ := (born_row (P := P) (ρ := ρ) hnew (cs := new'.toArray ++ Builtin.zeroCells z.cells (gc - k)) (d2 := (Builtin.zeroCells z.cells (gc - k)).toList) (fz := (0, 0)) (by simp) hbel Array.getElem?_push_size (fun i _ h => by omega) (x := gc - k) (n := i.size) hse (zeroCells_length hzs) (l := k) (cp := k) (cp' := gc) (by omega) (by omega)).lay hR hn
        exact ⟨_, _, _, hr, k1, k2, k3⟩
  · rename_i b o len cap
    cases hlc : Nat.ble len cap with
    | false => rw [hlc, Bool.not_false, cond_true] at h; cases h
    | true =>
      rw [hlc, Bool.not_true, cond_false] at h
      have hlc := Nat.le_of_ble_eq_true hlc
      cases hk0 : Nat.beq k 0 with
      | true =>
        rw [hk0, cond_true] at h
        cases h
        have hs2 := hs
        unfold VR at hs2
        rcases hs2 with ⟨_, _, _, a', c', rfl⟩ | ⟨_, b', xt, c', _, _, _, rfl⟩
        · have hlen : len = 0 := by omega
          exact ⟨_, w, ρ, hnone (eq_beq hk0) (Nat.zero_le _), Grow.refl _ _, hR, hs⟩
        · exact ⟨_, w, ρ, hnone (eq_beq hk0) (by omega), Grow.refl _ _, hR, hs⟩
      | false =>
        rw [hk0, cond_false] at h
        have hkp : 0 < k := by
          rcases Nat.eq_zero_or_pos k with h | h
          · rw [beqT h] at hk0; cases hk0
          · exact h
        have hdead : hp.get 1000000 = .dead ∨ hp.get 1000000 ≠ .dead := Classical.em _
        cases hroom : Nat.ble (len + k) cap with
        | true =>
          rw [hroom, cond_true] at h
          have hroom := Nat.le_of_ble_eq_true hroom
          unfold VR at hs
          rcases hs with ⟨_, _, q3, _⟩ | ⟨_, b', xt, c', q1, q2, q3, rfl⟩
          · omega
          · cases hst : storeCellsA hp G b (o + len * i.size) new with
            | none => rw [hst] at h; cases h
            | some hp1 =>
              rw [hst] at h
              cases h
              obtain ⟨g1, g2, g3⟩ := storeCells_ok hR hst q1 hnew
              have hr := run_append_room_src (P := P) w t tx ty e i ht hi b' o len c' x' k new' hsrc (by omega) (fun j hj => (g1 j hj).1) (fun j hj => (g1 j hj).2)
              exact ⟨_, _, ρ, hr, Grow.same (storeCells_n hst) ρ, g3, VR.mkSlice (q := (b', xt)) q1 q2 (by dsimp only; omega)⟩
        | false =>
          rw [hroom, cond_false] at h
          cases hob : hp.get b with
          | row c e' =>
            rw [hob] at h
            dsimp only at h
            cases hb : (Nat.beq o 0 && Nat.beq c.length (len * i.size) && Nat.beq e e' && Nat.beq cap len && Nat.ble (len + k) 1000000 && !Nat.blt b G && Nat.blt b 1000000) with
            | false => rw [hb, cond_false] at h; cases h
            | true =>
              rw [hb, cond_true] at h
              simp only [Bool.and_eq_true, Bool.not_eq_true'] at hb
              obtain ⟨⟨⟨⟨⟨⟨p1, p2⟩, p3⟩, p4⟩, p5⟩, p6⟩, p7⟩ := hb
              have p7 := @Nat.le_of_ble_eq_true (b + 1) 1000000 p7
              have p1 := eq_beq p1
              have p2 := eq_beq p2
              have p3 := eq_beq p3
              have p4 := eq_beq p4
              have p5 := Nat.le_of_ble_eq_true p5
              have hGb : G ≤ b := by
                rcases Nat.lt_or_ge b G with h1 | h1
                · have : Nat.blt b G = true := Nat.ble_eq_true_of_le h1
                  rw [this] at p6; cases p6
                · exact h1
              obtain rfl : o = 0 := p1
              subst p3
              cases hn : (hp.put b .dead).new (.row (c ++ new) e) with
              | none => rw [hn] at h; cases h
              | some q =>
                obtain ⟨b2, hp1⟩ := q
                rw [hn] at h
                cases h
                unfold VR at hs
                rcases hs with ⟨q1, q2, _, _⟩ | ⟨_, b', xt, c', q1, q2, q3, rfl⟩
                · exfalso
                  cases q1
                  omega
                · have hlive := hR.live b _ q1
                  rw [hob] at hlive
                  obtain ⟨cs, fz, d1, d2, g1, g2, g3, g4, n, g5, g6⟩ := hlive
                  rw [hse] at g5
                  cases g5
                  have hl1 := g3.length
                  have hsz : cs.size = d1.length + d2.length := by rw [← Array.length_toList, g2, List.length_append]
                  by_cases hfitc : len + k ≤ c'
                  · 
                    have hxk : k ≤ xt := by (try dsimp only at q3); omega
                    have hx1 : xt * i.size = k * i.size + (xt - k) * i.size := by rw [← Nat.add_mul]; congr 1; omega
                    (try dsimp only at g6)
                    have hd2 : new'.length ≤ d2.length := by omega
                    have hth : ∀ j, j < new'.length → (w.cell? ⟨b', 0 + len * i.size + j, none⟩).isSome = true := by
                      intro j hj
                      rw [cell_of g1]
                      have : len * i.size + j < cs.size := by omega
                      simp [this]
                    have hfz : ∀ j, j < new'.length → w.frozen? ⟨b', 0 + len * i.size + j, none⟩ = false := fun j hj => frozen_of g1 _ (g4 _ (by omega))
                    have hr := run_append_room_src (P := P) w t tx ty e i ht hi b' 0 len c' x' k new' hsrc hfitc hth hfz
                    have hh := setCells_heap b' new' (0 + len * i.size) w cs e fz g1 (by omega)
                    have hsp : (splice cs.toList (0 + len * i.size) new').toArray.toList = (d1 ++ new') ++ d2.drop new'.length := by
                      rw [g2]
                      unfold splice
                      have e1 : 0 + len * i.size = d1.length := by omega
                      rw [e1]
                      simp only [List.take_left, List.toList_toArray, List.append_assoc]
                      congr 2
                      rw [List.drop_append]
                      simp
                    obtain ⟨s1, s2, s3, s4⟩ := setCells_size b' new' (0 + len * i.size) w
                    have hcn : ρ b2 = none := by
                      obtain ⟨rfl, _⟩ := Hp.new_eq hn
                      have hpn : (hp.put b .dead).n = hp.n := rfl
                      rw [hpn]
                      cases e : ρ hp.n with
                      | none => rfl
                      | some x => have := (hR.bnd _ _ e).1; omega
                    obtain ⟨k1, k2⟩ := Rel.regrow (x := xt - k) hR q1 (by rw [hob]; intro hc; cases hc) hGb hn s1 s2 s3 s4 (fun j hj => setCells_other b' new' _ w j hj)
                      ⟨_, fz, d1 ++ new', d2.drop new'.length, hh, hsp, VRs.mono (Rho.put_le hcn _) _ _ (g3.append hnew), fun j hj => g4 j (by
                        have : (splice cs.toList (0 + len * i.size) new').toArray.size = cs.size := by
                          rw [← Array.length_toList, hsp, List.length_append, List.length_append, List.length_drop, hsz]
                          omega
                        omega), i.size, hse, by rw [List.length_drop]; (try dsimp only); omega⟩
                    exact ⟨_, _, _, hr, k1, k2, VR.mkSlice (q := (b', xt - k)) (Rho.put_at _ _ _) hfitc (by (try dsimp only at q3 ⊢); omega)⟩
                  · 
                    have hold : (Builtin.firstCells i.size len (.slice (some ⟨b', 0, none⟩) len c')).run P w.drew = .ok d1.toArray w.drew := by
                      refine run_firstCells_some w.drew i.size len ⟨b', 0, none⟩ len c' d1 (by omega) (fun j u hj => ?_)
                      rw [add_mid, Nat.zero_add]
                      have : w.drew.cell? ⟨b', j, none⟩ = w.cell? ⟨b', j, none⟩ := rfl
                      rw [this, cell_of g1, ← Array.getElem?_toList, g2, List.getElem?_append_left (List.getElem?_eq_some_iff.1 hj).1, hj]
                    have hr := run_append_grow_src (P := P) w t tx ty e i z ht hi hz (some ⟨b', 0, none⟩) len c' d1 hold x' k new' hsrc (by omega) (by omega) (hfit (by omega) (by omega))
                    have hge := grownCap_ge w (len + k) c' e
                    generalize hgc : grownCap w (len + k) c' e = gc at hr hge
                    have hbel : Below w.heap.size w (w.drew.alloc (.cells ((d1 ++ new').toArray ++ Builtin.zeroCells z.cells (gc - (len + k))) e)) := Below.alloc (Below.drew (Below.refl w.heap.size w)) (Nat.le_refl _) _
                    obtain ⟨k1, k2, k3⟩ := (born_row (P := P) (ρ := ρ) (g3.append hnew) (cs := (d1 ++ new').toArray ++ Builtin.zeroCells z.cells (gc - (len + k))) (d2 := (Builtin.zeroCells z.cells (gc - (len + k))).toList) (fz := (0, 0)) (by simp) hbel Array.getElem?_push_size (fun i _ h => by omega) (x := gc - (len + k)) (n := i.size) hse (zeroCells_length hzs) (l := len + k) (cp := len + k) (cp' := gc) (by omega) (by omega)).lay (hR.drop (b := b) (by have := (hR.bnd _ _ q1).1; have := hR.top; omega)) hn
                    exact ⟨_, _, _, hr, k1, k2, k3⟩
          | _ => rw [hob] at h; cases h
  · cases h
end
end Go.Proofs.YtfhnljmoilifnaaGreatDoor.Ae
end
